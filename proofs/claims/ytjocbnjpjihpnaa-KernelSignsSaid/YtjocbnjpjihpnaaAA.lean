/- Functions that come to what their texts say. -/
import Derived.Test.YtjocbnjpjihpnaaProg
import Derived.Test.YtjocbnjpjihpnaaWWc
import Derived.KernelRfl
import Derived.Test.YtjocbnjpjihpnaaBB
import Derived.Test.YtjocbnjpjihpnaaFgradinelaw14same
namespace Go.Proofs.Ytjocbnjpjihpnaa.A
open Go.RowKit Go.Proofs.Ytjocbnjpjihpnaa.P Go.Proofs.YtjocbnjpjihpnaaW.PrintWords Go.Proofs.YtjocbnjpjihpnaaW.PrintLast Go.Proofs.YtjocbnjpjihpnaaW.PrintMore Go.Proofs.YtjocbnjpjihpnaaW.Abs
set_option linter.unusedVariables false
set_option linter.unusedSimpArgs false
set_option maxRecDepth 100000
set_option maxHeartbeats 4000000
end Go.Proofs.Ytjocbnjpjihpnaa.A
namespace Go.Proofs.Ytjocbnjpjihpnaa.A
open Go.Proofs.YtjocbnjpjihpnaaW.Abs
def tab:Tab:= [(2,⟨1,8,[.ro (.int .i64) (0:Int)], .int .i64,some (.int .i64)⟩),
 (3,⟨1,8,[.ro (.int .i64) (0:Int)], .int .i64,some (.int .i64)⟩),
 (4,⟨1,1,[.ro .bool false], .bool,some .bool⟩),
 (5,⟨1,1,[.ro (.int .u8) (0:Int)], .int .u8,some (.int .u8)⟩),
 (9,⟨1,16,[.ro .str (⟨#[]⟩:ByteArray)], .str,some .str⟩),
 (13,⟨2,24,[.ro .str (⟨#[]⟩:ByteArray), .ro (.int .u64) (0:Int)], .struct [(0,1),(1,1)],some (.cons .str (.int .u64))⟩),
 (21,⟨1,4,[.ro (.int .i32) (0:Int)], .int .i32,some (.int .i32)⟩),
 (22,⟨1,8,[.ro (.int .u64) (0:Int)], .int .u64,some (.int .u64)⟩),
 (28,⟨1,24,[.nils], .slice 22,some (.row 22 (.int .u64))⟩),
 (29,⟨3,56,[.ro .bool false, .nils, .nils], .struct [(0,1),(1,1),(2,1)],some (.cons .bool (.cons (.row 22 (.int .u64)) (.row 22 (.int .u64))))⟩),
 (30,⟨3,56,[.ro .bool false, .nils, .nils], .struct [(0,1),(1,1),(2,1)],some (.cons .bool (.cons (.row 22 (.int .u64)) (.row 22 (.int .u64))))⟩),
 (39,⟨1,8,[.ro (.int .i64) (0:Int)], .int .i64,some (.int .i64)⟩),
 (43,⟨1,24,[.nils], .slice 85,some (.row 85 (.cons (.int .i64) (.cons (.int .i64) (.cons (.int .i64) (.cons .bool (.cons (.row 22 (.int .u64)) (.row 22 (.int .u64))))))))⟩),
 (44,⟨1,24,[.nils], .slice 30,some (.row 30 (.cons .bool (.cons (.row 22 (.int .u64)) (.row 22 (.int .u64)))))⟩),
 (45,⟨4,96,[.nils, .nils, .nils, .nils], .struct [(0,1),(1,1),(2,1),(3,1)],some (.cons (.row 85 (.cons (.int .i64) (.cons (.int .i64) (.cons (.int .i64) (.cons .bool (.cons (.row 22 (.int .u64)) (.row 22 (.int .u64)))))))) (.cons (.row 30 (.cons .bool (.cons (.row 22 (.int .u64)) (.row 22 (.int .u64))))) (.cons (.row 30 (.cons .bool (.cons (.row 22 (.int .u64)) (.row 22 (.int .u64))))) (.row 30 (.cons .bool (.cons (.row 22 (.int .u64)) (.row 22 (.int .u64))))))))⟩),
 (46,⟨4,96,[.nils, .nils, .nils, .nils], .struct [(0,1),(1,1),(2,1),(3,1)],some (.cons (.row 85 (.cons (.int .i64) (.cons (.int .i64) (.cons (.int .i64) (.cons .bool (.cons (.row 22 (.int .u64)) (.row 22 (.int .u64)))))))) (.cons (.row 30 (.cons .bool (.cons (.row 22 (.int .u64)) (.row 22 (.int .u64))))) (.cons (.row 30 (.cons .bool (.cons (.row 22 (.int .u64)) (.row 22 (.int .u64))))) (.row 30 (.cons .bool (.cons (.row 22 (.int .u64)) (.row 22 (.int .u64))))))))⟩),
 (47,⟨1,24,[.nils], .slice 3,some (.row 3 (.int .i64))⟩),
 (62,⟨14,112,[.ro (.int .i64) (0:Int), .ro (.int .i64) (0:Int), .ro (.int .i64) (0:Int), .ro (.int .i64) (0:Int), .ro (.int .i64) (0:Int), .ro (.int .i64) (0:Int), .ro (.int .i64) (0:Int), .ro (.int .i64) (0:Int), .ro (.int .i64) (0:Int), .ro (.int .i64) (0:Int), .ro (.int .i64) (0:Int), .ro (.int .i64) (0:Int), .ro (.int .i64) (0:Int), .ro (.int .i64) (0:Int)], .arr 14 3,none⟩),
 (67,⟨1,8,[.ro (.int .u64) (0:Int)], .int .u64,some (.int .u64)⟩),
 (84,⟨6,80,[.ro (.int .i64) (0:Int), .ro (.int .i64) (0:Int), .ro (.int .i64) (0:Int), .ro .bool false, .nils, .nils], .struct [(0,1),(1,1),(2,1),(3,3)],some (.cons (.int .i64) (.cons (.int .i64) (.cons (.int .i64) (.cons .bool (.cons (.row 22 (.int .u64)) (.row 22 (.int .u64)))))))⟩),
 (85,⟨6,80,[.ro (.int .i64) (0:Int), .ro (.int .i64) (0:Int), .ro (.int .i64) (0:Int), .ro .bool false, .nils, .nils], .struct [(0,1),(1,1),(2,1),(3,3)],some (.cons (.int .i64) (.cons (.int .i64) (.cons (.int .i64) (.cons .bool (.cons (.row 22 (.int .u64)) (.row 22 (.int .u64)))))))⟩),
 (90,⟨1,8,[.nilp], .ptr,none⟩),
 (92,⟨3,72,[.nils, .nils, .nils], .struct [(0,1),(1,1),(2,1)],some (.cons (.row 30 (.cons .bool (.cons (.row 22 (.int .u64)) (.row 22 (.int .u64))))) (.cons (.row 30 (.cons .bool (.cons (.row 22 (.int .u64)) (.row 22 (.int .u64))))) (.row 30 (.cons .bool (.cons (.row 22 (.int .u64)) (.row 22 (.int .u64)))))))⟩),
 (93,⟨3,72,[.nils, .nils, .nils], .struct [(0,1),(1,1),(2,1)],some (.cons (.row 30 (.cons .bool (.cons (.row 22 (.int .u64)) (.row 22 (.int .u64))))) (.cons (.row 30 (.cons .bool (.cons (.row 22 (.int .u64)) (.row 22 (.int .u64))))) (.row 30 (.cons .bool (.cons (.row 22 (.int .u64)) (.row 22 (.int .u64)))))))⟩),
 (106,⟨3,24,[.ro .bool false, .ro (.int .u64) (0:Int), .ro (.int .i64) (0:Int)], .struct [(0,1),(1,1),(2,1)],some (.cons .bool (.cons (.int .u64) (.int .i64)))⟩),
 (107,⟨3,24,[.ro .bool false, .ro (.int .u64) (0:Int), .ro (.int .i64) (0:Int)], .struct [(0,1),(1,1),(2,1)],some (.cons .bool (.cons (.int .u64) (.int .i64)))⟩),
 (124,⟨1,8,[.nilp], .ptr,none⟩),
 (125,⟨4,80,[.nils, .nils, .nils, .ro (.int .i64) (0:Int)], .struct [(0,1),(1,1),(2,1),(3,1)],some (.cons (.row 30 (.cons .bool (.cons (.row 22 (.int .u64)) (.row 22 (.int .u64))))) (.cons (.row 30 (.cons .bool (.cons (.row 22 (.int .u64)) (.row 22 (.int .u64))))) (.cons (.row 30 (.cons .bool (.cons (.row 22 (.int .u64)) (.row 22 (.int .u64))))) (.int .i64))))⟩),
 (126,⟨4,80,[.nils, .nils, .nils, .ro (.int .i64) (0:Int)], .struct [(0,1),(1,1),(2,1),(3,1)],some (.cons (.row 30 (.cons .bool (.cons (.row 22 (.int .u64)) (.row 22 (.int .u64))))) (.cons (.row 30 (.cons .bool (.cons (.row 22 (.int .u64)) (.row 22 (.int .u64))))) (.cons (.row 30 (.cons .bool (.cons (.row 22 (.int .u64)) (.row 22 (.int .u64))))) (.int .i64))))⟩),
 (129,⟨1,8,[.nilp], .ptr,none⟩),
 (150,⟨1,4,[.ro (.int .u32) (0:Int)], .int .u32,some (.int .u32)⟩),
 (154,⟨1,8,[.nilp], .ptr,none⟩)]
theorem tab_ok:Tab.ok Try.prog tab=true:=by kernel_rfl
end Go.Proofs.Ytjocbnjpjihpnaa.A
namespace Go.Proofs.Ytjocbnjpjihpnaa.A
open Go.RowKit Go.Proofs.Ytjocbnjpjihpnaa.P Go.Proofs.YtjocbnjpjihpnaaW.PrintWords Go.Proofs.YtjocbnjpjihpnaaW.PrintLast Go.Proofs.YtjocbnjpjihpnaaW.PrintMore Go.Proofs.YtjocbnjpjihpnaaW.Abs
set_option linter.unusedVariables false
set_option linter.unusedSimpArgs false
set_option maxRecDepth 100000
set_option maxHeartbeats 4000000
section
def s_fbits_exponent:FSpec:=⟨[.int .u64],[.int .i64],fun _ x=>(fbits_exponent.f x.1).map fun r=>(r,())⟩
def m_fbits_exponent (r:Int):TT s_fbits_exponent.rs:=(r,())
theorem o_fbits_exponent:FOk Try.prog 103 s_fbits_exponent :=
 fn_of (Bt:=blook []) (l:= []) (C:=noCuts) (by kernel_rfl) tab_ok trivial (fn:=Try.f103) (by kernel_rfl) rfl (by kernel_rfl) (by decide) (by kernel_rfl) (F:=fun k x=>fbits_exponent.f x.1) (m:=m_fbits_exponent) (fun k x=>rfl)
  (by exact trivial)
  (fun k ⟨(a0:Int),_⟩=>by show LeT m_fbits_exponent (fbits_exponent.f a0) _;unfold fbits_exponent.f;exact go)
end
section
attribute [local irreducible] fbits_exponent.f
def s_fbits_Kind:FSpec:=⟨[.int .u64],[.int .i64],fun _ x=>(fbits_Kind.f x.1).map fun r=>(r,())⟩
def m_fbits_Kind (r:Int):TT s_fbits_Kind.rs:=(r,())
theorem o_fbits_Kind:FOk Try.prog 36 s_fbits_Kind :=
 fn_of (Bt:=blook []) (l:= [(103, .pu s_fbits_exponent)]) (C:=noCuts) (by kernel_rfl) tab_ok ⟨o_fbits_exponent,trivial⟩ (fn:=Try.f36) (by kernel_rfl) rfl (by kernel_rfl) (by decide) (by kernel_rfl) (F:=fun k x=>fbits_Kind.f x.1) (m:=m_fbits_Kind) (fun k x=>rfl)
  (by exact trivial)
  (fun k ⟨(a0:Int),_⟩=>by show LeT m_fbits_Kind (fbits_Kind.f a0) _;unfold fbits_Kind.f;exact go)
end
section
def s_fbits_Nan:FSpec:=⟨[],[.int .u64],fun _ _=>(fbits_Nan.f).map fun r=>(r,())⟩
def m_fbits_Nan (r:Int):TT s_fbits_Nan.rs:=(r,())
theorem o_fbits_Nan:FOk Try.prog 37 s_fbits_Nan :=
 fn_of (Bt:=blook []) (l:= []) (C:=noCuts) (by kernel_rfl) tab_ok trivial (fn:=Try.f37) (by kernel_rfl) rfl (by kernel_rfl) (by decide) (by kernel_rfl) (F:=fun k x=>fbits_Nan.f) (m:=m_fbits_Nan) (fun k x=>rfl)
  (by exact trivial)
  (fun k x=>by show LeT m_fbits_Nan (fbits_Nan.f) _;unfold fbits_Nan.f;exact go)
end
section
attribute [local irreducible] fbits_Kind.f fbits_Nan.f
def s_fbits_Clean:FSpec:=⟨[.int .u64],[.int .u64],fun _ x=>(fbits_Clean.f x.1).map fun r=>(r,())⟩
def m_fbits_Clean (r:Int):TT s_fbits_Clean.rs:=(r,())
theorem o_fbits_Clean:FOk Try.prog 112 s_fbits_Clean :=
 fn_of (Bt:=blook []) (l:= [(36, .pu s_fbits_Kind),(37, .pu s_fbits_Nan)]) (C:=noCuts) (by kernel_rfl) tab_ok ⟨o_fbits_Kind,o_fbits_Nan,trivial⟩ (fn:=Try.f112) (by kernel_rfl) rfl (by kernel_rfl) (by decide) (by kernel_rfl) (F:=fun k x=>fbits_Clean.f x.1) (m:=m_fbits_Clean) (fun k x=>rfl)
  (by exact trivial)
  (fun k ⟨(a0:Int),_⟩=>by show LeT m_fbits_Clean (fbits_Clean.f a0) _;unfold fbits_Clean.f;exact go)
end
section
attribute [local irreducible] fbits_Kind.f fbits_Nan.f
def s_fbits_Flip:FSpec:=⟨[.int .u64],[.int .u64],fun _ x=>(fbits_Flip.f x.1).map fun r=>(r,())⟩
def m_fbits_Flip (r:Int):TT s_fbits_Flip.rs:=(r,())
theorem o_fbits_Flip:FOk Try.prog 109 s_fbits_Flip :=
 fn_of (Bt:=blook []) (l:= [(36, .pu s_fbits_Kind),(37, .pu s_fbits_Nan)]) (C:=noCuts) (by kernel_rfl) tab_ok ⟨o_fbits_Kind,o_fbits_Nan,trivial⟩ (fn:=Try.f109) (by kernel_rfl) rfl (by kernel_rfl) (by decide) (by kernel_rfl) (F:=fun k x=>fbits_Flip.f x.1) (m:=m_fbits_Flip) (fun k x=>rfl)
  (by exact trivial)
  (fun k ⟨(a0:Int),_⟩=>by show LeT m_fbits_Flip (fbits_Flip.f a0) _;unfold fbits_Flip.f;exact go)
end
section
def s_fbits_signed:FSpec:=⟨[.bool, .int .u64],[.int .u64],fun _ x=>(fbits_signed.f x.1 x.2.1).map fun r=>(r,())⟩
def m_fbits_signed (r:Int):TT s_fbits_signed.rs:=(r,())
theorem o_fbits_signed:FOk Try.prog 106 s_fbits_signed :=
 fn_of (Bt:=blook []) (l:= []) (C:=noCuts) (by kernel_rfl) tab_ok trivial (fn:=Try.f106) (by kernel_rfl) rfl (by kernel_rfl) (by decide) (by kernel_rfl) (F:=fun k x=>fbits_signed.f x.1 x.2.1) (m:=m_fbits_signed) (fun k x=>rfl)
  (by exact trivial)
  (fun k ⟨(a0:Bool),(a1:Int),_⟩=>by show LeT m_fbits_signed (fbits_signed.f a0 a1) _;unfold fbits_signed.f;exact go)
end
section
attribute [local irreducible] fbits_signed.f
def s_fbits_Inf:FSpec:=⟨[.bool],[.int .u64],fun _ x=>(fbits_Inf.f x.1).map fun r=>(r,())⟩
def m_fbits_Inf (r:Int):TT s_fbits_Inf.rs:=(r,())
theorem o_fbits_Inf:FOk Try.prog 39 s_fbits_Inf :=
 fn_of (Bt:=blook []) (l:= [(106, .pu s_fbits_signed)]) (C:=noCuts) (by kernel_rfl) tab_ok ⟨o_fbits_signed,trivial⟩ (fn:=Try.f39) (by kernel_rfl) rfl (by kernel_rfl) (by decide) (by kernel_rfl) (F:=fun k x=>fbits_Inf.f x.1) (m:=m_fbits_Inf) (fun k x=>rfl)
  (by exact trivial)
  (fun k ⟨(a0:Bool),_⟩=>by show LeT m_fbits_Inf (fbits_Inf.f a0) _;unfold fbits_Inf.f;exact go)
end
section
def s_limb_Len:FSpec:=⟨[.int .u64],[.int .i64],fun k x=>(limb_Len.f k x.1).map fun r=>(r,())⟩
def m_limb_Len (r:Int):TT s_limb_Len.rs:=(r,())
@[reducible] def q0_limb_Len:List Slot:= [.tmp 0 [.ty (.int .u64)], .tmp 3 [.ty (.int .i64)], .tmp 4 [.ty (.int .i64)]]
def g0_limb_Len (k:Nat) (x:TS q0_limb_Len):Option (Int):=limb_Len.l0 k x.1.1 x.2.1.1 x.2.2.1.1
def c_limb_Len:Cuts (TT s_limb_Len.rs):=⟨⟨23,23,[]⟩,lookC [(0,⟨q0_limb_Len,fun k x=>(g0_limb_Len k x).map m_limb_Len⟩)],lookC [],lookC []⟩
theorem o_limb_Len:FOk Try.prog 107 s_limb_Len :=
 fn_of (Bt:=blook []) (l:= []) (C:=c_limb_Len) (by kernel_rfl) tab_ok trivial (fn:=Try.f107) (by kernel_rfl) rfl (by kernel_rfl) (by decide) (by kernel_rfl) (F:=fun k x=>limb_Len.f k x.1) (m:=m_limb_Len) (fun k x=>rfl)
  (by
   refine And.intro ?_ ?_
   ·refine ob_loop (sl:=q0_limb_Len) (F:=g0_limb_Len) (fun x=>rfl) fun k ⟨⟨(x0:Int),_⟩,⟨(x3:Int),_⟩,⟨(x4:Int),_⟩,_⟩=> ?_
    show LeT m_limb_Len (limb_Len.l0 (k+1) x0 x3 x4) _
    rw [limb_Len.l0];exact go
   exact trivial)
  (fun k ⟨(a0:Int),_⟩=>by show LeT m_limb_Len (limb_Len.f k a0) _;unfold limb_Len.f;exact go)
end
section
attribute [local irreducible] fbits_signed.f limb_Len.f
def s_fbits_Make:FSpec:=⟨[.bool, .int .u64, .int .i64],[.int .u64, .bool],fun k x=>(fbits_Make.f k x.1 x.2.1 x.2.2.1).map fun r=>(r.1,r.2,())⟩
def m_fbits_Make (r:Int × Bool):TT s_fbits_Make.rs:=(r.1,r.2,())
theorem o_fbits_Make:FOk Try.prog 120 s_fbits_Make :=
 fn_of (Bt:=blook []) (l:= [(106, .pu s_fbits_signed),(107, .pu s_limb_Len)]) (C:=noCuts) (by kernel_rfl) tab_ok ⟨o_fbits_signed,o_limb_Len,trivial⟩ (fn:=Try.f120) (by kernel_rfl) rfl (by kernel_rfl) (by decide) (by kernel_rfl) (F:=fun k x=>fbits_Make.f k x.1 x.2.1 x.2.2.1) (m:=m_fbits_Make) (fun k x=>rfl)
  (by exact trivial)
  (fun k ⟨(a0:Bool),(a1:Int),(a2:Int),_⟩=>by show LeT m_fbits_Make (fbits_Make.f k a0 a1 a2) _;unfold fbits_Make.f;unfold fbits_Make.j0;unfold fbits_Make.j1;unfold fbits_Make.j2;exact goq)
end
section
def s_fbits_Neg:FSpec:=⟨[.int .u64],[.bool],fun _ x=>(fbits_Neg.f x.1).map fun r=>(r,())⟩
def m_fbits_Neg (r:Bool):TT s_fbits_Neg.rs:=(r,())
theorem o_fbits_Neg:FOk Try.prog 57 s_fbits_Neg :=
 fn_of (Bt:=blook []) (l:= []) (C:=noCuts) (by kernel_rfl) tab_ok trivial (fn:=Try.f57) (by kernel_rfl) rfl (by kernel_rfl) (by decide) (by kernel_rfl) (F:=fun k x=>fbits_Neg.f x.1) (m:=m_fbits_Neg) (fun k x=>rfl)
  (by exact trivial)
  (fun k ⟨(a0:Int),_⟩=>by show LeT m_fbits_Neg (fbits_Neg.f a0) _;unfold fbits_Neg.f;exact go)
end
section
attribute [local irreducible] fbits_Kind.f fbits_Neg.f fbits_exponent.f
def s_fbits_Parts:FSpec:=⟨[.int .u64],[.bool, .int .u64, .int .i64, .bool],fun k x=>(fbits_Parts.f k x.1).map fun r=>(r.1,r.2.1,r.2.2.1,r.2.2.2,())⟩
def m_fbits_Parts (r:Bool × Int × Int × Bool):TT s_fbits_Parts.rs:=(r.1,r.2.1,r.2.2.1,r.2.2.2,())
theorem o_fbits_Parts:FOk Try.prog 84 s_fbits_Parts :=
 fn_of (Bt:=blook []) (l:= [(36, .pu s_fbits_Kind),(57, .pu s_fbits_Neg),(103, .pu s_fbits_exponent)]) (C:=noCuts) (by kernel_rfl) tab_ok ⟨o_fbits_Kind,o_fbits_Neg,o_fbits_exponent,trivial⟩ (fn:=Try.f84) (by kernel_rfl) rfl (by kernel_rfl) (by decide) (by kernel_rfl) (F:=fun k x=>fbits_Parts.f k x.1) (m:=m_fbits_Parts) (fun k x=>rfl)
  (by exact trivial)
  (fun k ⟨(a0:Int),_⟩=>by show LeT m_fbits_Parts (fbits_Parts.f k a0) _;unfold fbits_Parts.f;unfold fbits_Parts.j0;exact goq)
end
section
attribute [local irreducible] fbits_Kind.f
def s_fcmp_known:FSpec:=⟨[.int .u64, .int .u64],[.bool],fun _ x=>(fcmp_known.f x.1 x.2.1).map fun r=>(r,())⟩
def m_fcmp_known (r:Bool):TT s_fcmp_known.rs:=(r,())
theorem o_fcmp_known:FOk Try.prog 104 s_fcmp_known :=
 fn_of (Bt:=blook []) (l:= [(36, .pu s_fbits_Kind)]) (C:=noCuts) (by kernel_rfl) tab_ok ⟨o_fbits_Kind,trivial⟩ (fn:=Try.f104) (by kernel_rfl) rfl (by kernel_rfl) (by decide) (by kernel_rfl) (F:=fun k x=>fcmp_known.f x.1 x.2.1) (m:=m_fcmp_known) (fun k x=>rfl)
  (by exact trivial)
  (fun k ⟨(a0:Int),(a1:Int),_⟩=>by show LeT m_fcmp_known (fcmp_known.f a0 a1) _;unfold fcmp_known.f;exact go)
end
section
attribute [local irreducible] fbits_Neg.f
def s_fcmp_key:FSpec:=⟨[.int .u64],[.int .i64],fun _ x=>(fcmp_key.f x.1).map fun r=>(r,())⟩
def m_fcmp_key (r:Int):TT s_fcmp_key.rs:=(r,())
theorem o_fcmp_key:FOk Try.prog 105 s_fcmp_key :=
 fn_of (Bt:=blook []) (l:= [(57, .pu s_fbits_Neg)]) (C:=noCuts) (by kernel_rfl) tab_ok ⟨o_fbits_Neg,trivial⟩ (fn:=Try.f105) (by kernel_rfl) rfl (by kernel_rfl) (by decide) (by kernel_rfl) (F:=fun k x=>fcmp_key.f x.1) (m:=m_fcmp_key) (fun k x=>rfl)
  (by exact trivial)
  (fun k ⟨(a0:Int),_⟩=>by show LeT m_fcmp_key (fcmp_key.f a0) _;unfold fcmp_key.f;exact go)
end
section
attribute [local irreducible] fcmp_known.f fcmp_key.f
def s_fcmp_Less:FSpec:=⟨[.int .u64, .int .u64],[.bool],fun _ x=>(fcmp_Less.f x.1 x.2.1).map fun r=>(r,())⟩
def m_fcmp_Less (r:Bool):TT s_fcmp_Less.rs:=(r,())
theorem o_fcmp_Less:FOk Try.prog 38 s_fcmp_Less :=
 fn_of (Bt:=blook []) (l:= [(104, .pu s_fcmp_known),(105, .pu s_fcmp_key)]) (C:=noCuts) (by kernel_rfl) tab_ok ⟨o_fcmp_known,o_fcmp_key,trivial⟩ (fn:=Try.f38) (by kernel_rfl) rfl (by kernel_rfl) (by decide) (by kernel_rfl) (F:=fun k x=>fcmp_Less.f x.1 x.2.1) (m:=m_fcmp_Less) (fun k x=>rfl)
  (by exact trivial)
  (fun k ⟨(a0:Int),(a1:Int),_⟩=>by show LeT m_fcmp_Less (fcmp_Less.f a0 a1) _;unfold fcmp_Less.f;exact go)
end
section
attribute [local irreducible] fbits_Parts.f limb_Len.f
def s_fcmp_Near:FSpec:=⟨[.int .u64],[.int .i64, .bool],fun k x=>(fcmp_Near.f k x.1).map fun r=>(r.1,r.2,())⟩
def m_fcmp_Near (r:Int × Bool):TT s_fcmp_Near.rs:=(r.1,r.2,())
@[reducible] def q0_fcmp_Near:List Slot:= [.tmp 4 [.ty .bool], .tmp 5 [.ty (.int .u64)], .tmp 6 [.ty (.int .i64)], .tmp 25 [.ty .bool]]
def g0_fcmp_Near (k:Nat) (x:TS q0_fcmp_Near):Option (Int × Bool):=fcmp_Near.j0 k x.1.1 x.2.1.1 x.2.2.1.1 x.2.2.2.1.1
@[reducible] def q1_fcmp_Near:List Slot:= [.tmp 4 [.ty .bool], .tmp 8 [.ty (.int .i64)], .tmp 55 [.ty .bool]]
def g1_fcmp_Near (k:Nat) (x:TS q1_fcmp_Near):Option (Int × Bool):=fcmp_Near.j1 k x.1.1 x.2.1.1 x.2.2.1.1
def c_fcmp_Near:Cuts (TT s_fcmp_Near.rs):=⟨⟨62,62,[]⟩,lookC [],lookC [],lookC [(2,⟨q0_fcmp_Near,fun k x=>(g0_fcmp_Near k x).map m_fcmp_Near⟩),(10,⟨q1_fcmp_Near,fun k x=>(g1_fcmp_Near k x).map m_fcmp_Near⟩)]⟩
theorem o_fcmp_Near:FOk Try.prog 40 s_fcmp_Near :=
 fn_of (Bt:=blook []) (l:= [(84, .pu s_fbits_Parts),(107, .pu s_limb_Len)]) (C:=c_fcmp_Near) (by kernel_rfl) tab_ok ⟨o_fbits_Parts,o_limb_Len,trivial⟩ (fn:=Try.f40) (by kernel_rfl) rfl (by kernel_rfl) (by decide) (by kernel_rfl) (F:=fun k x=>fcmp_Near.f k x.1) (m:=m_fcmp_Near) (fun k x=>rfl)
  (by
   refine And.intro ?_ ?_
   ·refine ob_join1 (sl:=q0_fcmp_Near) (F:=g0_fcmp_Near) (fun x=>rfl) fun k ⟨⟨(x4:Bool),_⟩,⟨(x5:Int),_⟩,⟨(x6:Int),_⟩,⟨(x25:Bool),_⟩,_⟩=> ?_
    show LeT m_fcmp_Near (fcmp_Near.j0 (k+1) x4 x5 x6 x25) _
    rw [fcmp_Near.j0];exact go
   refine And.intro ?_ ?_
   ·refine ob_join1 (sl:=q1_fcmp_Near) (F:=g1_fcmp_Near) (fun x=>rfl) fun k ⟨⟨(x4:Bool),_⟩,⟨(x8:Int),_⟩,⟨(x55:Bool),_⟩,_⟩=> ?_
    show LeT m_fcmp_Near (fcmp_Near.j1 (k+1) x4 x8 x55) _
    rw [fcmp_Near.j1];exact go
   exact trivial)
  (fun k ⟨(a0:Int),_⟩=>by show LeT m_fcmp_Near (fcmp_Near.f k a0) _;unfold fcmp_Near.f;exact go)
end
section
attribute [local irreducible] fbits_Inf.f fbits_Make.f
def s_fround_made:FSpec:=⟨[.bool, .int .u64, .int .i64],[.int .u64],fun k x=>(fround_made.f k x.1 x.2.1 x.2.2.1).map fun r=>(r,())⟩
def m_fround_made (r:Int):TT s_fround_made.rs:=(r,())
theorem o_fround_made:FOk Try.prog 68 s_fround_made :=
 fn_of (Bt:=blook []) (l:= [(39, .pu s_fbits_Inf),(120, .pu s_fbits_Make)]) (C:=noCuts) (by kernel_rfl) tab_ok ⟨o_fbits_Inf,o_fbits_Make,trivial⟩ (fn:=Try.f68) (by kernel_rfl) rfl (by kernel_rfl) (by decide) (by kernel_rfl) (F:=fun k x=>fround_made.f k x.1 x.2.1 x.2.2.1) (m:=m_fround_made) (fun k x=>rfl)
  (by exact trivial)
  (fun k ⟨(a0:Bool),(a1:Int),(a2:Int),_⟩=>by show LeT m_fround_made (fround_made.f k a0 a1 a2) _;unfold fround_made.f;exact go)
end
section
def s_fround_even:FSpec:=⟨[.int .u64, .bool, .bool],[.int .u64],fun _ x=>(fround_even.f x.1 x.2.1 x.2.2.1).map fun r=>(r,())⟩
def m_fround_even (r:Int):TT s_fround_even.rs:=(r,())
theorem o_fround_even:FOk Try.prog 126 s_fround_even :=
 fn_of (Bt:=blook []) (l:= []) (C:=noCuts) (by kernel_rfl) tab_ok trivial (fn:=Try.f126) (by kernel_rfl) rfl (by kernel_rfl) (by decide) (by kernel_rfl) (F:=fun k x=>fround_even.f x.1 x.2.1 x.2.2.1) (m:=m_fround_even) (fun k x=>rfl)
  (by exact trivial)
  (fun k ⟨(a0:Int),(a1:Bool),(a2:Bool),_⟩=>by show LeT m_fround_even (fround_even.f a0 a1 a2) _;unfold fround_even.f;exact go)
end
section
attribute [local irreducible] fbits_Inf.f fround_made.f limb_Len.f fround_even.f
def s_fround_Word:FSpec:=⟨[.bool, .int .u64, .int .i64],[.int .u64],fun k x=>(fround_Word.f k x.1 x.2.1 x.2.2.1).map fun r=>(r,())⟩
def m_fround_Word (r:Int):TT s_fround_Word.rs:=(r,())
theorem o_fround_Word:FOk Try.prog 65 s_fround_Word :=
 fn_of (Bt:=blook []) (l:= [(39, .pu s_fbits_Inf),(68, .pu s_fround_made),(107, .pu s_limb_Len),(126, .pu s_fround_even)]) (C:=noCuts) (by kernel_rfl) tab_ok ⟨o_fbits_Inf,o_fround_made,o_limb_Len,o_fround_even,trivial⟩ (fn:=Try.f65) (by kernel_rfl) rfl (by kernel_rfl) (by decide) (by kernel_rfl) (F:=fun k x=>fround_Word.f k x.1 x.2.1 x.2.2.1) (m:=m_fround_Word) (fun k x=>rfl)
  (by exact trivial)
  (fun k ⟨(a0:Bool),(a1:Int),(a2:Int),_⟩=>by show LeT m_fround_Word (fround_Word.f k a0 a1 a2) _;unfold fround_Word.f;exact go)
end
section
attribute [local irreducible] fround_Word.f fbits_Parts.f fbits_Clean.f
def s_fcmp_Scale:FSpec:=⟨[.int .u64, .int .i64],[.int .u64],fun k x=>(fcmp_Scale.f k x.1 x.2.1).map fun r=>(r,())⟩
def m_fcmp_Scale (r:Int):TT s_fcmp_Scale.rs:=(r,())
theorem o_fcmp_Scale:FOk Try.prog 46 s_fcmp_Scale :=
 fn_of (Bt:=blook []) (l:= [(65, .pu s_fround_Word),(84, .pu s_fbits_Parts),(112, .pu s_fbits_Clean)]) (C:=noCuts) (by kernel_rfl) tab_ok ⟨o_fround_Word,o_fbits_Parts,o_fbits_Clean,trivial⟩ (fn:=Try.f46) (by kernel_rfl) rfl (by kernel_rfl) (by decide) (by kernel_rfl) (F:=fun k x=>fcmp_Scale.f k x.1 x.2.1) (m:=m_fcmp_Scale) (fun k x=>rfl)
  (by exact trivial)
  (fun k ⟨(a0:Int),(a1:Int),_⟩=>by show LeT m_fcmp_Scale (fcmp_Scale.f k a0 a1) _;unfold fcmp_Scale.f;exact go)
end
section
attribute [local irreducible] fbits_Make.f
def s_fprod_signed:FSpec:=⟨[.bool],[.int .u64],fun k x=>(fprod_signed.f k x.1).map fun r=>(r,())⟩
def m_fprod_signed (r:Int):TT s_fprod_signed.rs:=(r,())
theorem o_fprod_signed:FOk Try.prog 121 s_fprod_signed :=
 fn_of (Bt:=blook []) (l:= [(120, .pu s_fbits_Make)]) (C:=noCuts) (by kernel_rfl) tab_ok ⟨o_fbits_Make,trivial⟩ (fn:=Try.f121) (by kernel_rfl) rfl (by kernel_rfl) (by decide) (by kernel_rfl) (F:=fun k x=>fprod_signed.f k x.1) (m:=m_fprod_signed) (fun k x=>rfl)
  (by exact trivial)
  (fun k ⟨(a0:Bool),_⟩=>by show LeT m_fprod_signed (fprod_signed.f k a0) _;unfold fprod_signed.f;exact go)
end
section
def s_limb_digit:FSpec:=⟨[.int .u64, .int .u64, .int .u64],[.int .u64, .int .u64],fun k x=>(limb_digit.f k x.1 x.2.1 x.2.2.1).map fun r=>(r.1,r.2,())⟩
def m_limb_digit (r:Int × Int):TT s_limb_digit.rs:=(r.1,r.2,())
@[reducible] def q0_limb_digit:List Slot:= [.tmp 0 [.ty (.int .u64)], .tmp 1 [.ty (.int .u64)], .tmp 2 [.ty (.int .u64)], .tmp 8 [.ty (.int .u64)], .tmp 9 [.ty (.int .u64)], .tmp 10 [.ty (.int .u64)], .tmp 11 [.ty (.int .u64)]]
def g0_limb_digit (k:Nat) (x:TS q0_limb_digit):Option (Int × Int):=limb_digit.l0 k x.1.1 x.2.1.1 x.2.2.1.1 x.2.2.2.1.1 x.2.2.2.2.1.1 x.2.2.2.2.2.1.1 x.2.2.2.2.2.2.1.1
@[reducible] def q1_limb_digit:List Slot:= [.tmp 0 [.ty (.int .u64)], .tmp 1 [.ty (.int .u64)], .tmp 2 [.ty (.int .u64)], .tmp 8 [.ty (.int .u64)], .tmp 9 [.ty (.int .u64)], .tmp 10 [.ty (.int .u64)], .tmp 11 [.ty (.int .u64)], .tmp 33 [.ty .bool]]
def g1_limb_digit (k:Nat) (x:TS q1_limb_digit):Option (Int × Int):=limb_digit.j1 k x.1.1 x.2.1.1 x.2.2.1.1 x.2.2.2.1.1 x.2.2.2.2.1.1 x.2.2.2.2.2.1.1 x.2.2.2.2.2.2.1.1 x.2.2.2.2.2.2.2.1.1
def c_limb_digit:Cuts (TT s_limb_digit.rs):=⟨⟨50,50,[]⟩,lookC [(0,⟨q0_limb_digit,fun k x=>(g0_limb_digit k x).map m_limb_digit⟩)],lookC [],lookC [(4,⟨q1_limb_digit,fun k x=>(g1_limb_digit k x).map m_limb_digit⟩)]⟩
theorem o_limb_digit:FOk Try.prog 165 s_limb_digit :=
 fn_of (Bt:=blook []) (l:= []) (C:=c_limb_digit) (by kernel_rfl) tab_ok trivial (fn:=Try.f165) (by kernel_rfl) rfl (by kernel_rfl) (by decide) (by kernel_rfl) (F:=fun k x=>limb_digit.f k x.1 x.2.1 x.2.2.1) (m:=m_limb_digit) (fun k x=>rfl)
  (by
   refine And.intro ?_ ?_
   ·refine ob_loop (sl:=q0_limb_digit) (F:=g0_limb_digit) (fun x=>rfl) fun k ⟨⟨(x0:Int),_⟩,⟨(x1:Int),_⟩,⟨(x2:Int),_⟩,⟨(x8:Int),_⟩,⟨(x9:Int),_⟩,⟨(x10:Int),_⟩,⟨(x11:Int),_⟩,_⟩=> ?_
    show LeT m_limb_digit (limb_digit.l0 (k+1) x0 x1 x2 x8 x9 x10 x11) _
    rw [limb_digit.l0];exact go
   refine And.intro ?_ ?_
   ·refine ob_join1 (sl:=q1_limb_digit) (F:=g1_limb_digit) (fun x=>rfl) fun k ⟨⟨(x0:Int),_⟩,⟨(x1:Int),_⟩,⟨(x2:Int),_⟩,⟨(x8:Int),_⟩,⟨(x9:Int),_⟩,⟨(x10:Int),_⟩,⟨(x11:Int),_⟩,⟨(x33:Bool),_⟩,_⟩=> ?_
    show LeT m_limb_digit (limb_digit.j1 (k+1) x0 x1 x2 x8 x9 x10 x11 x33) _
    rw [limb_digit.j1];exact go
   exact trivial)
  (fun k ⟨(a0:Int),(a1:Int),(a2:Int),_⟩=>by show LeT m_limb_digit (limb_digit.f k a0 a1 a2) _;unfold limb_digit.f;exact go)
end
section
attribute [local irreducible] limb_Len.f limb_digit.f
def s_limb_Div:FSpec:=⟨[.int .u64, .int .u64, .int .u64],[.int .u64, .int .u64, .bool],fun k x=>(limb_Div.f k x.1 x.2.1 x.2.2.1).map fun r=>(r.1,r.2.1,r.2.2,())⟩
def m_limb_Div (r:Int × Int × Bool):TT s_limb_Div.rs:=(r.1,r.2.1,r.2.2,())
theorem o_limb_Div:FOk Try.prog 122 s_limb_Div :=
 fn_of (Bt:=blook [(5,[0,0,3,0,8,0,32,120,255,511]),(9,[0,1,0,7,0,0,48,15,255,511])]) (l:= [(107, .pu s_limb_Len),(165, .pu s_limb_digit)]) (C:=noCuts) (by kernel_rfl) tab_ok ⟨o_limb_Len,o_limb_digit,trivial⟩ (fn:=Try.f122) (by kernel_rfl) rfl (by kernel_rfl) (by decide) (by kernel_rfl) (F:=fun k x=>limb_Div.f k x.1 x.2.1 x.2.2.1) (m:=m_limb_Div) (fun k x=>rfl)
  (by exact trivial)
  (fun k ⟨(a0:Int),(a1:Int),(a2:Int),_⟩=>by show LeT m_limb_Div (limb_Div.f k a0 a1 a2) _;unfold limb_Div.f;exact go)
end
section
attribute [local irreducible] fbits_Kind.f fbits_Nan.f fbits_Inf.f fbits_Neg.f fround_Word.f fbits_Parts.f limb_Len.f fprod_signed.f limb_Div.f
def s_fprod_Div:FSpec:=⟨[.int .u64, .int .u64],[.int .u64],fun k x=>(fprod_Div.f k x.1 x.2.1).map fun r=>(r,())⟩
def m_fprod_Div (r:Int):TT s_fprod_Div.rs:=(r,())
@[reducible] def q0_fprod_Div:List Slot:= [.tmp 0 [.ty (.int .u64)], .tmp 1 [.ty (.int .u64)], .tmp 5 [.ty (.int .i64)], .tmp 6 [.ty (.int .i64)], .tmp 7 [.ty .bool], .tmp 30 [.ty .bool]]
def g0_fprod_Div (k:Nat) (x:TS q0_fprod_Div):Option (Int):=fprod_Div.j0 k x.1.1 x.2.1.1 x.2.2.1.1 x.2.2.2.1.1 x.2.2.2.2.1.1 x.2.2.2.2.2.1.1
@[reducible] def q1_fprod_Div:List Slot:= [.tmp 0 [.ty (.int .u64)], .tmp 1 [.ty (.int .u64)], .tmp 5 [.ty (.int .i64)], .tmp 6 [.ty (.int .i64)], .tmp 7 [.ty .bool], .tmp 51 [.ty .bool]]
def g1_fprod_Div (k:Nat) (x:TS q1_fprod_Div):Option (Int):=fprod_Div.j1 k x.1.1 x.2.1.1 x.2.2.1.1 x.2.2.2.1.1 x.2.2.2.2.1.1 x.2.2.2.2.2.1.1
def c_fprod_Div:Cuts (TT s_fprod_Div.rs):=⟨⟨115,115,[]⟩,lookC [],lookC [],lookC [(3,⟨q0_fprod_Div,fun k x=>(g0_fprod_Div k x).map m_fprod_Div⟩),(5,⟨q1_fprod_Div,fun k x=>(g1_fprod_Div k x).map m_fprod_Div⟩)]⟩
theorem o_fprod_Div:FOk Try.prog 59 s_fprod_Div :=
 fn_of (Bt:=blook [(12,[0,0,3,0,0,24,63,127,255,255,255,511,3071,8191])]) (l:= [(36, .pu s_fbits_Kind),(37, .pu s_fbits_Nan),(39, .pu s_fbits_Inf),(57, .pu s_fbits_Neg),(65, .pu s_fround_Word),(84, .pu s_fbits_Parts),(107, .pu s_limb_Len),(121, .pu s_fprod_signed),(122, .pu s_limb_Div)]) (C:=c_fprod_Div) (by kernel_rfl) tab_ok ⟨o_fbits_Kind,o_fbits_Nan,o_fbits_Inf,o_fbits_Neg,o_fround_Word,o_fbits_Parts,o_limb_Len,o_fprod_signed,o_limb_Div,trivial⟩ (fn:=Try.f59) (by kernel_rfl) rfl (by kernel_rfl) (by decide) (by kernel_rfl) (F:=fun k x=>fprod_Div.f k x.1 x.2.1) (m:=m_fprod_Div) (fun k x=>rfl)
  (by
   refine And.intro ?_ ?_
   ·refine ob_join1 (sl:=q0_fprod_Div) (F:=g0_fprod_Div) (fun x=>rfl) fun k ⟨⟨(x0:Int),_⟩,⟨(x1:Int),_⟩,⟨(x5:Int),_⟩,⟨(x6:Int),_⟩,⟨(x7:Bool),_⟩,⟨(x30:Bool),_⟩,_⟩=> ?_
    show LeT m_fprod_Div (fprod_Div.j0 (k+1) x0 x1 x5 x6 x7 x30) _
    rw [fprod_Div.j0];exact go
   refine And.intro ?_ ?_
   ·refine ob_join1 (sl:=q1_fprod_Div) (F:=g1_fprod_Div) (fun x=>rfl) fun k ⟨⟨(x0:Int),_⟩,⟨(x1:Int),_⟩,⟨(x5:Int),_⟩,⟨(x6:Int),_⟩,⟨(x7:Bool),_⟩,⟨(x51:Bool),_⟩,_⟩=> ?_
    show LeT m_fprod_Div (fprod_Div.j1 (k+1) x0 x1 x5 x6 x7 x51) _
    rw [fprod_Div.j1];exact go
   exact trivial)
  (fun k ⟨(a0:Int),(a1:Int),_⟩=>by show LeT m_fprod_Div (fprod_Div.f k a0 a1) _;unfold fprod_Div.f;exact go)
end
section
def s_limb_Mul:FSpec:=⟨[.int .u64, .int .u64],[.int .u64, .int .u64],fun _ x=>(limb_Mul.f x.1 x.2.1).map fun r=>(r.1,r.2,())⟩
def m_limb_Mul (r:Int × Int):TT s_limb_Mul.rs:=(r.1,r.2,())
theorem o_limb_Mul:FOk Try.prog 108 s_limb_Mul :=
 fn_of (Bt:=blook []) (l:= []) (C:=noCuts) (by kernel_rfl) tab_ok trivial (fn:=Try.f108) (by kernel_rfl) rfl (by kernel_rfl) (by decide) (by kernel_rfl) (F:=fun k x=>limb_Mul.f x.1 x.2.1) (m:=m_limb_Mul) (fun k x=>rfl)
  (by exact trivial)
  (fun k ⟨(a0:Int),(a1:Int),_⟩=>by show LeT m_limb_Mul (limb_Mul.f a0 a1) _;unfold limb_Mul.f;exact go)
end
section
attribute [local irreducible] fbits_Kind.f fbits_Nan.f fbits_Inf.f fbits_Neg.f fround_Word.f fbits_Parts.f limb_Len.f limb_Mul.f
def s_fprod_Mul:FSpec:=⟨[.int .u64, .int .u64],[.int .u64],fun k x=>(fprod_Mul.f k x.1 x.2.1).map fun r=>(r,())⟩
def m_fprod_Mul (r:Int):TT s_fprod_Mul.rs:=(r,())
@[reducible] def q0_fprod_Mul:List Slot:= [.tmp 0 [.ty (.int .u64)], .tmp 1 [.ty (.int .u64)], .tmp 5 [.ty (.int .i64)], .tmp 6 [.ty (.int .i64)], .tmp 7 [.ty .bool], .tmp 29 [.ty .bool]]
def g0_fprod_Mul (k:Nat) (x:TS q0_fprod_Mul):Option (Int):=fprod_Mul.j0 k x.1.1 x.2.1.1 x.2.2.1.1 x.2.2.2.1.1 x.2.2.2.2.1.1 x.2.2.2.2.2.1.1
@[reducible] def q1_fprod_Mul:List Slot:= [.tmp 0 [.ty (.int .u64)], .tmp 1 [.ty (.int .u64)], .tmp 5 [.ty (.int .i64)], .tmp 6 [.ty (.int .i64)], .tmp 7 [.ty .bool], .tmp 37 [.ty .bool]]
def g1_fprod_Mul (k:Nat) (x:TS q1_fprod_Mul):Option (Int):=fprod_Mul.j1 k x.1.1 x.2.1.1 x.2.2.1.1 x.2.2.2.1.1 x.2.2.2.2.1.1 x.2.2.2.2.2.1.1
@[reducible] def q2_fprod_Mul:List Slot:= [.tmp 7 [.ty .bool], .tmp 49 [.ty .bool]]
def g2_fprod_Mul (k:Nat) (x:TS q2_fprod_Mul):Option (Int):=fprod_Mul.j2 k x.1.1 x.2.1.1
def c_fprod_Mul:Cuts (TT s_fprod_Mul.rs):=⟨⟨106,106,[]⟩,lookC [],lookC [],lookC [(3,⟨q0_fprod_Mul,fun k x=>(g0_fprod_Mul k x).map m_fprod_Mul⟩),(5,⟨q1_fprod_Mul,fun k x=>(g1_fprod_Mul k x).map m_fprod_Mul⟩),(6,⟨q2_fprod_Mul,fun k x=>(g2_fprod_Mul k x).map m_fprod_Mul⟩)]⟩
theorem o_fprod_Mul:FOk Try.prog 41 s_fprod_Mul :=
 fn_of (Bt:=blook [(15,[0,0,2,7,0,0,48,127,255])]) (l:= [(36, .pu s_fbits_Kind),(37, .pu s_fbits_Nan),(39, .pu s_fbits_Inf),(57, .pu s_fbits_Neg),(65, .pu s_fround_Word),(84, .pu s_fbits_Parts),(107, .pu s_limb_Len),(108, .pu s_limb_Mul)]) (C:=c_fprod_Mul) (by kernel_rfl) tab_ok ⟨o_fbits_Kind,o_fbits_Nan,o_fbits_Inf,o_fbits_Neg,o_fround_Word,o_fbits_Parts,o_limb_Len,o_limb_Mul,trivial⟩ (fn:=Try.f41) (by kernel_rfl) rfl (by kernel_rfl) (by decide) (by kernel_rfl) (F:=fun k x=>fprod_Mul.f k x.1 x.2.1) (m:=m_fprod_Mul) (fun k x=>rfl)
  (by
   refine And.intro ?_ ?_
   ·refine ob_join1 (sl:=q0_fprod_Mul) (F:=g0_fprod_Mul) (fun x=>rfl) fun k ⟨⟨(x0:Int),_⟩,⟨(x1:Int),_⟩,⟨(x5:Int),_⟩,⟨(x6:Int),_⟩,⟨(x7:Bool),_⟩,⟨(x29:Bool),_⟩,_⟩=> ?_
    show LeT m_fprod_Mul (fprod_Mul.j0 (k+1) x0 x1 x5 x6 x7 x29) _
    rw [fprod_Mul.j0];exact go
   refine And.intro ?_ ?_
   ·refine ob_join1 (sl:=q1_fprod_Mul) (F:=g1_fprod_Mul) (fun x=>rfl) fun k ⟨⟨(x0:Int),_⟩,⟨(x1:Int),_⟩,⟨(x5:Int),_⟩,⟨(x6:Int),_⟩,⟨(x7:Bool),_⟩,⟨(x37:Bool),_⟩,_⟩=> ?_
    show LeT m_fprod_Mul (fprod_Mul.j1 (k+1) x0 x1 x5 x6 x7 x37) _
    rw [fprod_Mul.j1];exact go
   refine And.intro ?_ ?_
   ·refine ob_join1 (sl:=q2_fprod_Mul) (F:=g2_fprod_Mul) (fun x=>rfl) fun k ⟨⟨(x7:Bool),_⟩,⟨(x49:Bool),_⟩,_⟩=> ?_
    show LeT m_fprod_Mul (fprod_Mul.j2 (k+1) x7 x49) _
    rw [fprod_Mul.j2];exact go
   exact trivial)
  (fun k ⟨(a0:Int),(a1:Int),_⟩=>by show LeT m_fprod_Mul (fprod_Mul.f k a0 a1) _;unfold fprod_Mul.f;exact go)
end
section
attribute [local irreducible] fround_Word.f
def s_fround_FromInt:FSpec:=⟨[.int .i64],[.int .u64],fun k x=>(fround_FromInt.f k x.1).map fun r=>(r,())⟩
def m_fround_FromInt (r:Int):TT s_fround_FromInt.rs:=(r,())
theorem o_fround_FromInt:FOk Try.prog 42 s_fround_FromInt :=
 fn_of (Bt:=blook []) (l:= [(65, .pu s_fround_Word)]) (C:=noCuts) (by kernel_rfl) tab_ok ⟨o_fround_Word,trivial⟩ (fn:=Try.f42) (by kernel_rfl) rfl (by kernel_rfl) (by decide) (by kernel_rfl) (F:=fun k x=>fround_FromInt.f k x.1) (m:=m_fround_FromInt) (fun k x=>rfl)
  (by exact trivial)
  (fun k ⟨(a0:Int),_⟩=>by show LeT m_fround_FromInt (fround_FromInt.f k a0) _;unfold fround_FromInt.f;exact go)
end
section
def s_fsum_odd:FSpec:=⟨[.int .u64, .int .i64],[.int .u64],fun _ x=>(fsum_odd.f x.1 x.2.1).map fun r=>(r,())⟩
def m_fsum_odd (r:Int):TT s_fsum_odd.rs:=(r,())
theorem o_fsum_odd:FOk Try.prog 161 s_fsum_odd :=
 fn_of (Bt:=blook []) (l:= []) (C:=noCuts) (by kernel_rfl) tab_ok trivial (fn:=Try.f161) (by kernel_rfl) rfl (by kernel_rfl) (by decide) (by kernel_rfl) (F:=fun k x=>fsum_odd.f x.1 x.2.1) (m:=m_fsum_odd) (fun k x=>rfl)
  (by exact trivial)
  (fun k ⟨(a0:Int),(a1:Int),_⟩=>by show LeT m_fsum_odd (fsum_odd.f a0 a1) _;unfold fsum_odd.f;exact go)
end
section
attribute [local irreducible] fround_Word.f fsum_odd.f
def s_fsum_finite:FSpec:=⟨[(.cons .bool (.cons (.int .u64) (.int .i64))),(.cons .bool (.cons (.int .u64) (.int .i64)))],[.int .u64],fun k x=>(fsum_finite.f k x.1.1 x.1.2.1 x.1.2.2 x.2.1.1 x.2.1.2.1 x.2.1.2.2).map fun r=>(r,())⟩
def m_fsum_finite (r:Int):TT s_fsum_finite.rs:=(r,())
theorem o_fsum_finite:FOk Try.prog 110 s_fsum_finite :=
 fn_of (Bt:=blook []) (l:= [(65, .pu s_fround_Word),(161, .pu s_fsum_odd)]) (C:=noCuts) (by kernel_rfl) tab_ok ⟨o_fround_Word,o_fsum_odd,trivial⟩ (fn:=Try.f110) (by kernel_rfl) rfl (by kernel_rfl) (by decide) (by kernel_rfl) (F:=fun k x=>fsum_finite.f k x.1.1 x.1.2.1 x.1.2.2 x.2.1.1 x.2.1.2.1 x.2.1.2.2) (m:=m_fsum_finite) (fun k x=>rfl)
  (by exact trivial)
  (fun k ⟨(a0:Bool × Int × Int),(a1:Bool × Int × Int),_⟩=>by show LeT m_fsum_finite (fsum_finite.f k a0.1 a0.2.1 a0.2.2 a1.1 a1.2.1 a1.2.2) _;unfold fsum_finite.f;unfold fsum_finite.j0;exact goq)
end
section
attribute [local irreducible] fbits_Parts.f
def s_fsum_of:FSpec:=⟨[.int .u64],[(.cons .bool (.cons (.int .u64) (.int .i64)))],fun k x=>(fsum_of.f k x.1).map fun r=>((r.1,r.2.1,r.2.2),())⟩
def m_fsum_of (r:Bool × Int × Int):TT s_fsum_of.rs:=((r.1,r.2.1,r.2.2),())
theorem o_fsum_of:FOk Try.prog 111 s_fsum_of :=
 fn_of (Bt:=blook []) (l:= [(84, .pu s_fbits_Parts)]) (C:=noCuts) (by kernel_rfl) tab_ok ⟨o_fbits_Parts,trivial⟩ (fn:=Try.f111) (by kernel_rfl) rfl (by kernel_rfl) (by decide) (by kernel_rfl) (F:=fun k x=>fsum_of.f k x.1) (m:=m_fsum_of) (fun k x=>rfl)
  (by exact trivial)
  (fun k ⟨(a0:Int),_⟩=>by show LeT m_fsum_of (fsum_of.f k a0) _;unfold fsum_of.f;exact go)
end
section
attribute [local irreducible] fbits_Kind.f fbits_Nan.f fsum_finite.f fsum_of.f
def s_fsum_Add:FSpec:=⟨[.int .u64, .int .u64],[.int .u64],fun k x=>(fsum_Add.f k x.1 x.2.1).map fun r=>(r,())⟩
def m_fsum_Add (r:Int):TT s_fsum_Add.rs:=(r,())
@[reducible] def q0_fsum_Add:List Slot:= [.tmp 0 [.ty (.int .u64)], .tmp 1 [.ty (.int .u64)], .tmp 5 [.ty (.int .i64)], .tmp 6 [.ty (.int .i64)], .tmp 11 [.ty .bool]]
def g0_fsum_Add (k:Nat) (x:TS q0_fsum_Add):Option (Int):=fsum_Add.j0 k x.1.1 x.2.1.1 x.2.2.1.1 x.2.2.2.1.1 x.2.2.2.2.1.1
@[reducible] def q1_fsum_Add:List Slot:= [.tmp 0 [.ty (.int .u64)], .tmp 1 [.ty (.int .u64)], .tmp 5 [.ty (.int .i64)], .tmp 6 [.ty (.int .i64)], .tmp 19 [.ty .bool]]
def g1_fsum_Add (k:Nat) (x:TS q1_fsum_Add):Option (Int):=fsum_Add.j1 k x.1.1 x.2.1.1 x.2.2.1.1 x.2.2.2.1.1 x.2.2.2.2.1.1
def c_fsum_Add:Cuts (TT s_fsum_Add.rs):=⟨⟨45,45,[]⟩,lookC [],lookC [],lookC [(2,⟨q0_fsum_Add,fun k x=>(g0_fsum_Add k x).map m_fsum_Add⟩),(4,⟨q1_fsum_Add,fun k x=>(g1_fsum_Add k x).map m_fsum_Add⟩)]⟩
theorem o_fsum_Add:FOk Try.prog 45 s_fsum_Add :=
 fn_of (Bt:=blook []) (l:= [(36, .pu s_fbits_Kind),(37, .pu s_fbits_Nan),(110, .pu s_fsum_finite),(111, .pu s_fsum_of)]) (C:=c_fsum_Add) (by kernel_rfl) tab_ok ⟨o_fbits_Kind,o_fbits_Nan,o_fsum_finite,o_fsum_of,trivial⟩ (fn:=Try.f45) (by kernel_rfl) rfl (by kernel_rfl) (by decide) (by kernel_rfl) (F:=fun k x=>fsum_Add.f k x.1 x.2.1) (m:=m_fsum_Add) (fun k x=>rfl)
  (by
   refine And.intro ?_ ?_
   ·refine ob_join1 (sl:=q0_fsum_Add) (F:=g0_fsum_Add) (fun x=>rfl) fun k ⟨⟨(x0:Int),_⟩,⟨(x1:Int),_⟩,⟨(x5:Int),_⟩,⟨(x6:Int),_⟩,⟨(x11:Bool),_⟩,_⟩=> ?_
    show LeT m_fsum_Add (fsum_Add.j0 (k+1) x0 x1 x5 x6 x11) _
    rw [fsum_Add.j0];exact go
   refine And.intro ?_ ?_
   ·refine ob_join1 (sl:=q1_fsum_Add) (F:=g1_fsum_Add) (fun x=>rfl) fun k ⟨⟨(x0:Int),_⟩,⟨(x1:Int),_⟩,⟨(x5:Int),_⟩,⟨(x6:Int),_⟩,⟨(x19:Bool),_⟩,_⟩=> ?_
    show LeT m_fsum_Add (fsum_Add.j1 (k+1) x0 x1 x5 x6 x19) _
    rw [fsum_Add.j1];exact go
   exact trivial)
  (fun k ⟨(a0:Int),(a1:Int),_⟩=>by show LeT m_fsum_Add (fsum_Add.f k a0 a1) _;unfold fsum_Add.f;exact go)
end
section
attribute [local irreducible] fsum_Add.f fbits_Flip.f
def s_fsum_Sub:FSpec:=⟨[.int .u64, .int .u64],[.int .u64],fun k x=>(fsum_Sub.f k x.1 x.2.1).map fun r=>(r,())⟩
def m_fsum_Sub (r:Int):TT s_fsum_Sub.rs:=(r,())
theorem o_fsum_Sub:FOk Try.prog 43 s_fsum_Sub :=
 fn_of (Bt:=blook []) (l:= [(45, .pu s_fsum_Add),(109, .pu s_fbits_Flip)]) (C:=noCuts) (by kernel_rfl) tab_ok ⟨o_fsum_Add,o_fbits_Flip,trivial⟩ (fn:=Try.f43) (by kernel_rfl) rfl (by kernel_rfl) (by decide) (by kernel_rfl) (F:=fun k x=>fsum_Sub.f k x.1 x.2.1) (m:=m_fsum_Sub) (fun k x=>rfl)
  (by exact trivial)
  (fun k ⟨(a0:Int),(a1:Int),_⟩=>by show LeT m_fsum_Sub (fsum_Sub.f k a0 a1) _;unfold fsum_Sub.f;exact go)
end
section
attribute [local irreducible] fround_FromInt.f fprod_Div.f
def s_kernel_part:FSpec:=⟨[.int .i64],[.int .u64],fun k x=>(kernel_part.f k x.1).map fun r=>(r,())⟩
def m_kernel_part (r:Int):TT s_kernel_part.rs:=(r,())
theorem o_kernel_part:FOk Try.prog 44 s_kernel_part :=
 fn_of (Bt:=blook []) (l:= [(42, .pu s_fround_FromInt),(59, .pu s_fprod_Div)]) (C:=noCuts) (by kernel_rfl) tab_ok ⟨o_fround_FromInt,o_fprod_Div,trivial⟩ (fn:=Try.f44) (by kernel_rfl) rfl (by kernel_rfl) (by decide) (by kernel_rfl) (F:=fun k x=>kernel_part.f k x.1) (m:=m_kernel_part) (fun k x=>rfl)
  (by exact trivial)
  (fun k ⟨(a0:Int),_⟩=>by show LeT m_kernel_part (kernel_part.f k a0) _;unfold kernel_part.f;exact go)
end
section
attribute [local irreducible] fbits_Kind.f fbits_Nan.f fcmp_Less.f fbits_Inf.f fcmp_Near.f fprod_Mul.f fround_FromInt.f fsum_Sub.f kernel_part.f fsum_Add.f fcmp_Scale.f
def s_kernel_Exp:FSpec:=⟨[.int .u64],[.int .u64],fun k x=>(kernel_Exp.f k x.1).map fun r=>(r,())⟩
def m_kernel_Exp (r:Int):TT s_kernel_Exp.rs:=(r,())
@[reducible] def q0_kernel_Exp:List Slot:= [.tmp 3 [.ty (.int .i64)], .tmp 6 [.ty (.int .u64)], .tmp 7 [.aptr 7], .arr 7 62 (.int .i64), .tmp 9 [.ty (.int .u64)], .tmp 10 [.ty (.int .i64)]]
def g0_kernel_Exp (k:Nat) (x:TS q0_kernel_Exp):Option (Int):=kernel_Exp.l1 k x.1.1 x.2.1.1 x.2.2.2.1 x.2.2.2.2.1.1 x.2.2.2.2.2.1.1
@[reducible] def q1_kernel_Exp:List Slot:= [.tmp 3 [.ty (.int .i64)], .tmp 6 [.ty (.int .u64)], .tmp 7 [.aptr 7], .arr 7 62 (.int .i64), .tmp 39 [.ty (.int .i64)]]
def g1_kernel_Exp (k:Nat) (x:TS q1_kernel_Exp):Option (Int):=kernel_Exp.l0 k x.1.1 x.2.1.1 x.2.2.2.1 x.2.2.2.2.1.1
def c_kernel_Exp:Cuts (TT s_kernel_Exp.rs):=⟨⟨70,70,[]⟩,lookC [(1,⟨q0_kernel_Exp,fun k x=>(g0_kernel_Exp k x).map m_kernel_Exp⟩),(0,⟨q1_kernel_Exp,fun k x=>(g1_kernel_Exp k x).map m_kernel_Exp⟩)],lookC [],lookC []⟩
theorem o_kernel_Exp:FOk Try.prog 8 s_kernel_Exp :=
 fn_of (Bt:=blook [(20,[0,0,3,0,8,24,63,127,255])]) (l:= [(36, .pu s_fbits_Kind),(37, .pu s_fbits_Nan),(38, .pu s_fcmp_Less),(39, .pu s_fbits_Inf),(40, .pu s_fcmp_Near),(41, .pu s_fprod_Mul),(42, .pu s_fround_FromInt),(43, .pu s_fsum_Sub),(44, .pu s_kernel_part),(45, .pu s_fsum_Add),(46, .pu s_fcmp_Scale)]) (C:=c_kernel_Exp) (by kernel_rfl) tab_ok ⟨o_fbits_Kind,o_fbits_Nan,o_fcmp_Less,o_fbits_Inf,o_fcmp_Near,o_fprod_Mul,o_fround_FromInt,o_fsum_Sub,o_kernel_part,o_fsum_Add,o_fcmp_Scale,trivial⟩ (fn:=Try.f8) (by kernel_rfl) rfl (by kernel_rfl) (by decide) (by kernel_rfl) (F:=fun k x=>kernel_Exp.f k x.1) (m:=m_kernel_Exp) (fun k x=>rfl)
  (by
   refine And.intro ?_ ?_
   ·refine ob_loop (sl:=q1_kernel_Exp) (F:=g1_kernel_Exp) (fun x=>rfl) fun k ⟨⟨(e:Int),_⟩,⟨(r:Int),_⟩,_,(fs:List Int),⟨(i:Int),_⟩,_⟩=> ?_
    show LeT m_kernel_Exp (kernel_Exp.l0 (k+1) e r fs i) _
    rw [kernel_Exp.l0];exact go
   refine And.intro ?_ ?_
   ·refine ob_loop (sl:=q0_kernel_Exp) (F:=g0_kernel_Exp) (fun x=>rfl) fun k ⟨⟨(e:Int),_⟩,⟨(r:Int),_⟩,_,(fs:List Int),⟨(p:Int),_⟩,⟨(i:Int),_⟩,_⟩=> ?_
    show LeT m_kernel_Exp (kernel_Exp.l1 (k+1) e r fs p i) _
    rw [kernel_Exp.l1];exact go
   exact trivial)
  (fun k ⟨(a0:Int),_⟩=>by show LeT m_kernel_Exp (kernel_Exp.f k a0) _;unfold kernel_Exp.f;exact go)
end
section
attribute [local irreducible] fcmp_Less.f fbits_Parts.f limb_Len.f fbits_Make.f
def s_kernel_split:FSpec:=⟨[.int .u64],[.int .u64, .int .i64],fun k x=>(kernel_split.f k x.1).map fun r=>(r.1,r.2,())⟩
def m_kernel_split (r:Int × Int):TT s_kernel_split.rs:=(r.1,r.2,())
theorem o_kernel_split:FOk Try.prog 58 s_kernel_split :=
 fn_of (Bt:=blook []) (l:= [(38, .pu s_fcmp_Less),(84, .pu s_fbits_Parts),(107, .pu s_limb_Len),(120, .pu s_fbits_Make)]) (C:=noCuts) (by kernel_rfl) tab_ok ⟨o_fcmp_Less,o_fbits_Parts,o_limb_Len,o_fbits_Make,trivial⟩ (fn:=Try.f58) (by kernel_rfl) rfl (by kernel_rfl) (by decide) (by kernel_rfl) (F:=fun k x=>kernel_split.f k x.1) (m:=m_kernel_split) (fun k x=>rfl)
  (by exact trivial)
  (fun k ⟨(a0:Int),_⟩=>by show LeT m_kernel_split (kernel_split.f k a0) _;unfold kernel_split.f;exact go)
end
section
attribute [local irreducible] fbits_Kind.f fbits_Nan.f fbits_Inf.f fprod_Mul.f fround_FromInt.f fsum_Sub.f kernel_part.f fsum_Add.f fbits_Neg.f kernel_split.f fprod_Div.f
def s_kernel_Log:FSpec:=⟨[.int .u64],[.int .u64],fun k x=>(kernel_Log.f k x.1).map fun r=>(r,())⟩
def m_kernel_Log (r:Int):TT s_kernel_Log.rs:=(r,())
@[reducible] def q0_kernel_Log:List Slot:= [.tmp 0 [.ty (.int .u64)], .tmp 3 [.ty (.int .i64)], .tmp 20 [.ty .bool]]
def g0_kernel_Log (k:Nat) (x:TS q0_kernel_Log):Option (Int):=kernel_Log.j0 k x.1.1 x.2.1.1 x.2.2.1.1
@[reducible] def q1_kernel_Log:List Slot:= [.tmp 5 [.ty (.int .i64)], .tmp 7 [.ty (.int .u64)], .tmp 8 [.ty (.int .u64)], .tmp 9 [.ty (.int .u64)], .tmp 10 [.ty (.int .i64)]]
def g1_kernel_Log (k:Nat) (x:TS q1_kernel_Log):Option (Int):=kernel_Log.l0 k x.1.1 x.2.1.1 x.2.2.1.1 x.2.2.2.1.1 x.2.2.2.2.1.1
def c_kernel_Log:Cuts (TT s_kernel_Log.rs):=⟨⟨81,81,[]⟩,lookC [(0,⟨q1_kernel_Log,fun k x=>(g1_kernel_Log k x).map m_kernel_Log⟩)],lookC [],lookC [(4,⟨q0_kernel_Log,fun k x=>(g0_kernel_Log k x).map m_kernel_Log⟩)]⟩
theorem o_kernel_Log:FOk Try.prog 10 s_kernel_Log :=
 fn_of (Bt:=blook []) (l:= [(36, .pu s_fbits_Kind),(37, .pu s_fbits_Nan),(39, .pu s_fbits_Inf),(41, .pu s_fprod_Mul),(42, .pu s_fround_FromInt),(43, .pu s_fsum_Sub),(44, .pu s_kernel_part),(45, .pu s_fsum_Add),(57, .pu s_fbits_Neg),(58, .pu s_kernel_split),(59, .pu s_fprod_Div)]) (C:=c_kernel_Log) (by kernel_rfl) tab_ok ⟨o_fbits_Kind,o_fbits_Nan,o_fbits_Inf,o_fprod_Mul,o_fround_FromInt,o_fsum_Sub,o_kernel_part,o_fsum_Add,o_fbits_Neg,o_kernel_split,o_fprod_Div,trivial⟩ (fn:=Try.f10) (by kernel_rfl) rfl (by kernel_rfl) (by decide) (by kernel_rfl) (F:=fun k x=>kernel_Log.f k x.1) (m:=m_kernel_Log) (fun k x=>rfl)
  (by
   refine And.intro ?_ ?_
   ·refine ob_join1 (sl:=q0_kernel_Log) (F:=g0_kernel_Log) (fun x=>rfl) fun k ⟨⟨(x0:Int),_⟩,⟨(x3:Int),_⟩,⟨(x20:Bool),_⟩,_⟩=> ?_
    show LeT m_kernel_Log (kernel_Log.j0 (k+1) x0 x3 x20) _
    rw [kernel_Log.j0];exact go
   refine And.intro ?_ ?_
   ·refine ob_loop (sl:=q1_kernel_Log) (F:=g1_kernel_Log) (fun x=>rfl) fun k ⟨⟨(x5:Int),_⟩,⟨(x7:Int),_⟩,⟨(x8:Int),_⟩,⟨(x9:Int),_⟩,⟨(x10:Int),_⟩,_⟩=> ?_
    show LeT m_kernel_Log (kernel_Log.l0 (k+1) x5 x7 x8 x9 x10) _
    rw [kernel_Log.l0];exact go
   exact trivial)
  (fun k ⟨(a0:Int),_⟩=>by show LeT m_kernel_Log (kernel_Log.f k a0) _;unfold kernel_Log.f;exact go)
end
section
attribute [local irreducible] kernel_Exp.f kernel_Log.f
def s_gradinelaw14_same:FSpec:=⟨[],[.bool],fun k _=>(gradinelaw14_same.f k).map fun r=>(r,())⟩
def m_gradinelaw14_same (r:Bool):TT s_gradinelaw14_same.rs:=(r,())
theorem o_gradinelaw14_same:FOk Try.prog 12 s_gradinelaw14_same :=
 fn_of (Bt:=blook []) (l:= [(8, .pu s_kernel_Exp),(10, .pu s_kernel_Log)]) (C:=noCuts) (by kernel_rfl) tab_ok ⟨o_kernel_Exp,o_kernel_Log,trivial⟩ (fn:=Try.f12) (by kernel_rfl) rfl (by kernel_rfl) (by decide) (by kernel_rfl) (F:=fun k x=>gradinelaw14_same.f k) (m:=m_gradinelaw14_same) (fun k x=>rfl)
  (by exact trivial)
  (fun k x=>by show LeT m_gradinelaw14_same (gradinelaw14_same.f k) _;unfold gradinelaw14_same.f;exact go)
end
section
def s_gr09_Field:FSpec:=⟨[.int .u64],[.int .i64],fun _ x=>(gr09_Field.f x.1).map fun r=>(r,())⟩
def m_gr09_Field (r:Int):TT s_gr09_Field.rs:=(r,())
theorem o_gr09_Field:FOk Try.prog 61 s_gr09_Field :=
 fn_of (Bt:=blook []) (l:= []) (C:=noCuts) (by kernel_rfl) tab_ok trivial (fn:=Try.f61) (by kernel_rfl) rfl (by kernel_rfl) (by decide) (by kernel_rfl) (F:=fun k x=>gr09_Field.f x.1) (m:=m_gr09_Field) (fun k x=>rfl)
  (by exact trivial)
  (fun k ⟨(a0:Int),_⟩=>by show LeT m_gr09_Field (gr09_Field.f a0) _;unfold gr09_Field.f;exact go)
end
section
def s_gr09_Rest:FSpec:=⟨[.int .u64],[.int .u64],fun _ x=>(gr09_Rest.f x.1).map fun r=>(r,())⟩
def m_gr09_Rest (r:Int):TT s_gr09_Rest.rs:=(r,())
theorem o_gr09_Rest:FOk Try.prog 62 s_gr09_Rest :=
 fn_of (Bt:=blook []) (l:= []) (C:=noCuts) (by kernel_rfl) tab_ok trivial (fn:=Try.f62) (by kernel_rfl) rfl (by kernel_rfl) (by decide) (by kernel_rfl) (F:=fun k x=>gr09_Rest.f x.1) (m:=m_gr09_Rest) (fun k x=>rfl)
  (by exact trivial)
  (fun k ⟨(a0:Int),_⟩=>by show LeT m_gr09_Rest (gr09_Rest.f a0) _;unfold gr09_Rest.f;exact go)
end
section
attribute [local irreducible] gr09_Field.f gr09_Rest.f
def s_gr09_Kind:FSpec:=⟨[.int .u64],[.int .i64],fun _ x=>(gr09_Kind.f x.1).map fun r=>(r,())⟩
def m_gr09_Kind (r:Int):TT s_gr09_Kind.rs:=(r,())
theorem o_gr09_Kind:FOk Try.prog 13 s_gr09_Kind :=
 fn_of (Bt:=blook []) (l:= [(61, .pu s_gr09_Field),(62, .pu s_gr09_Rest)]) (C:=noCuts) (by kernel_rfl) tab_ok ⟨o_gr09_Field,o_gr09_Rest,trivial⟩ (fn:=Try.f13) (by kernel_rfl) rfl (by kernel_rfl) (by decide) (by kernel_rfl) (F:=fun k x=>gr09_Kind.f x.1) (m:=m_gr09_Kind) (fun k x=>rfl)
  (by exact trivial)
  (fun k ⟨(a0:Int),_⟩=>by show LeT m_gr09_Kind (gr09_Kind.f a0) _;unfold gr09_Kind.f;exact go)
end
section
def s_gr09_Neg:FSpec:=⟨[.int .u64],[.bool],fun _ x=>(gr09_Neg.f x.1).map fun r=>(r,())⟩
def m_gr09_Neg (r:Bool):TT s_gr09_Neg.rs:=(r,())
theorem o_gr09_Neg:FOk Try.prog 14 s_gr09_Neg :=
 fn_of (Bt:=blook []) (l:= []) (C:=noCuts) (by kernel_rfl) tab_ok trivial (fn:=Try.f14) (by kernel_rfl) rfl (by kernel_rfl) (by decide) (by kernel_rfl) (F:=fun k x=>gr09_Neg.f x.1) (m:=m_gr09_Neg) (fun k x=>rfl)
  (by exact trivial)
  (fun k ⟨(a0:Int),_⟩=>by show LeT m_gr09_Neg (gr09_Neg.f a0) _;unfold gr09_Neg.f;exact go)
end
section
attribute [local irreducible] gr09_Kind.f gr09_Neg.f
def s_gr13_Less:FSpec:=⟨[.int .u64, .int .u64],[.bool],fun k x=>(gr13_Less.f k x.1 x.2.1).map fun r=>(r,())⟩
def m_gr13_Less (r:Bool):TT s_gr13_Less.rs:=(r,())
@[reducible] def q0_gr13_Less:List Slot:= [.tmp 0 [.ty (.int .u64)], .tmp 1 [.ty (.int .u64)], .tmp 14 [.ty .bool]]
def g0_gr13_Less (k:Nat) (x:TS q0_gr13_Less):Option (Bool):=gr13_Less.j0 k x.1.1 x.2.1.1 x.2.2.1.1
@[reducible] def q1_gr13_Less:List Slot:= [.tmp 0 [.ty (.int .u64)], .tmp 1 [.ty (.int .u64)], .tmp 5 [.ty .bool], .tmp 6 [.ty .bool], .tmp 22 [.ty .bool]]
def g1_gr13_Less (k:Nat) (x:TS q1_gr13_Less):Option (Bool):=gr13_Less.j1 k x.1.1 x.2.1.1 x.2.2.1.1 x.2.2.2.1.1 x.2.2.2.2.1.1
def c_gr13_Less:Cuts (TT s_gr13_Less.rs):=⟨⟨40,40,[]⟩,lookC [],lookC [],lookC [(1,⟨q0_gr13_Less,fun k x=>(g0_gr13_Less k x).map m_gr13_Less⟩),(4,⟨q1_gr13_Less,fun k x=>(g1_gr13_Less k x).map m_gr13_Less⟩)]⟩
theorem o_gr13_Less:FOk Try.prog 15 s_gr13_Less :=
 fn_of (Bt:=blook []) (l:= [(13, .pu s_gr09_Kind),(14, .pu s_gr09_Neg)]) (C:=c_gr13_Less) (by kernel_rfl) tab_ok ⟨o_gr09_Kind,o_gr09_Neg,trivial⟩ (fn:=Try.f15) (by kernel_rfl) rfl (by kernel_rfl) (by decide) (by kernel_rfl) (F:=fun k x=>gr13_Less.f k x.1 x.2.1) (m:=m_gr13_Less) (fun k x=>rfl)
  (by
   refine And.intro ?_ ?_
   ·refine ob_join1 (sl:=q0_gr13_Less) (F:=g0_gr13_Less) (fun x=>rfl) fun k ⟨⟨(x0:Int),_⟩,⟨(x1:Int),_⟩,⟨(x14:Bool),_⟩,_⟩=> ?_
    show LeT m_gr13_Less (gr13_Less.j0 (k+1) x0 x1 x14) _
    rw [gr13_Less.j0];exact go
   refine And.intro ?_ ?_
   ·refine ob_join1 (sl:=q1_gr13_Less) (F:=g1_gr13_Less) (fun x=>rfl) fun k ⟨⟨(x0:Int),_⟩,⟨(x1:Int),_⟩,⟨(x5:Bool),_⟩,⟨(x6:Bool),_⟩,⟨(x22:Bool),_⟩,_⟩=> ?_
    show LeT m_gr13_Less (gr13_Less.j1 (k+1) x0 x1 x5 x6 x22) _
    rw [gr13_Less.j1];exact go
   exact trivial)
  (fun k ⟨(a0:Int),(a1:Int),_⟩=>by show LeT m_gr13_Less (gr13_Less.f k a0 a1) _;unfold gr13_Less.f;exact go)
end
end Go.Proofs.Ytjocbnjpjihpnaa.A
