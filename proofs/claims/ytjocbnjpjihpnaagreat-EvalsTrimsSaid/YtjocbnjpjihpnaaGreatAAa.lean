/- Functions that come to what their texts say. -/
import Derived.Test.YtjocbnjpjihpnaaGreatProg
import Derived.Test.YtjocbnjpjihpnaaGreatWWc
import Derived.KernelRfl
import Derived.Test.YtjocbnjpjihpnaaGreatBB
import Derived.Test.YtjocbnjpjihpnaaGreatFgradinelaw15Many
namespace Go.Proofs.YtjocbnjpjihpnaaGreat.A
open Go.RowKit Go.Proofs.YtjocbnjpjihpnaaGreat.P Go.Proofs.YtjocbnjpjihpnaaGreatW.PrintWords Go.Proofs.YtjocbnjpjihpnaaGreatW.PrintLast Go.Proofs.YtjocbnjpjihpnaaGreatW.PrintMore Go.Proofs.YtjocbnjpjihpnaaGreatW.Abs
set_option linter.unusedVariables false
set_option linter.unusedSimpArgs false
set_option maxRecDepth 100000
set_option maxHeartbeats 4000000
end Go.Proofs.YtjocbnjpjihpnaaGreat.A
namespace Go.Proofs.YtjocbnjpjihpnaaGreat.A
open Go.Proofs.YtjocbnjpjihpnaaGreatW.Abs
def tab:Tab:= [(2,⟨1,8,[.ro (.int .i64) (0:Int)], .int .i64,some (.int .i64)⟩),
 (3,⟨1,8,[.ro (.int .i64) (0:Int)], .int .i64,some (.int .i64)⟩),
 (4,⟨1,1,[.ro .bool false], .bool,some .bool⟩),
 (5,⟨1,1,[.ro (.int .u8) (0:Int)], .int .u8,some (.int .u8)⟩),
 (9,⟨1,16,[.ro .str (⟨#[]⟩:ByteArray)], .str,some .str⟩),
 (13,⟨2,24,[.ro .str (⟨#[]⟩:ByteArray), .ro (.int .u64) (0:Int)], .struct [(0,1),(1,1)],some (.cons .str (.int .u64))⟩),
 (21,⟨1,4,[.ro (.int .i32) (0:Int)], .int .i32,some (.int .i32)⟩),
 (22,⟨1,24,[.nils], .slice 93,some (.row 93 (.cons (.int .i64) (.cons (.int .i64) (.cons (.int .i64) (.cons .bool (.cons (.row 73 (.int .u64)) (.row 73 (.int .u64))))))))⟩),
 (23,⟨1,24,[.nils], .slice 45,some (.row 45 (.cons .bool (.cons (.row 73 (.int .u64)) (.row 73 (.int .u64)))))⟩),
 (24,⟨4,96,[.nils, .nils, .nils, .nils], .struct [(0,1),(1,1),(2,1),(3,1)],some (.cons (.row 93 (.cons (.int .i64) (.cons (.int .i64) (.cons (.int .i64) (.cons .bool (.cons (.row 73 (.int .u64)) (.row 73 (.int .u64)))))))) (.cons (.row 45 (.cons .bool (.cons (.row 73 (.int .u64)) (.row 73 (.int .u64))))) (.cons (.row 45 (.cons .bool (.cons (.row 73 (.int .u64)) (.row 73 (.int .u64))))) (.row 45 (.cons .bool (.cons (.row 73 (.int .u64)) (.row 73 (.int .u64))))))))⟩),
 (25,⟨4,96,[.nils, .nils, .nils, .nils], .struct [(0,1),(1,1),(2,1),(3,1)],some (.cons (.row 93 (.cons (.int .i64) (.cons (.int .i64) (.cons (.int .i64) (.cons .bool (.cons (.row 73 (.int .u64)) (.row 73 (.int .u64)))))))) (.cons (.row 45 (.cons .bool (.cons (.row 73 (.int .u64)) (.row 73 (.int .u64))))) (.cons (.row 45 (.cons .bool (.cons (.row 73 (.int .u64)) (.row 73 (.int .u64))))) (.row 45 (.cons .bool (.cons (.row 73 (.int .u64)) (.row 73 (.int .u64))))))))⟩),
 (28,⟨1,8,[.ro (.int .i64) (0:Int)], .int .i64,some (.int .i64)⟩),
 (34,⟨1,24,[.nils], .slice 3,some (.row 3 (.int .i64))⟩),
 (43,⟨1,24,[.nils], .slice 73,some (.row 73 (.int .u64))⟩),
 (44,⟨3,56,[.ro .bool false, .nils, .nils], .struct [(0,1),(1,1),(2,1)],some (.cons .bool (.cons (.row 73 (.int .u64)) (.row 73 (.int .u64))))⟩),
 (45,⟨3,56,[.ro .bool false, .nils, .nils], .struct [(0,1),(1,1),(2,1)],some (.cons .bool (.cons (.row 73 (.int .u64)) (.row 73 (.int .u64))))⟩),
 (62,⟨1,24,[.nils], .slice 75,some (.row 75 (.cons (.int .i64) (.cons (.int .i64) (.cons (.int .i64) (.cons (.int .i64) (.cons (.int .i64) (.int .u64)))))))⟩),
 (63,⟨1,8,[.nilp], .ptr,none⟩),
 (65,⟨1,24,[.nils], .slice 4,some (.row 4 .bool)⟩),
 (66,⟨5,56,[.ro (.int .i64) (0:Int), .ro (.int .i64) (0:Int), .ro (.int .i64) (0:Int), .nils, .ro .bool false], .struct [(0,1),(1,1),(2,1),(3,1),(4,1)],some (.cons (.int .i64) (.cons (.int .i64) (.cons (.int .i64) (.cons (.row 4 .bool) .bool))))⟩),
 (67,⟨5,56,[.ro (.int .i64) (0:Int), .ro (.int .i64) (0:Int), .ro (.int .i64) (0:Int), .nils, .ro .bool false], .struct [(0,1),(1,1),(2,1),(3,1),(4,1)],some (.cons (.int .i64) (.cons (.int .i64) (.cons (.int .i64) (.cons (.row 4 .bool) .bool))))⟩),
 (68,⟨1,24,[.nils], .slice 137,some (.row 137 (.cons (.cons .bool (.cons (.row 73 (.int .u64)) (.row 73 (.int .u64)))) (.cons (.int .u64) (.int .i64))))⟩),
 (69,⟨2,48,[.nils, .nils], .struct [(0,1),(1,1)],some (.cons (.row 137 (.cons (.cons .bool (.cons (.row 73 (.int .u64)) (.row 73 (.int .u64)))) (.cons (.int .u64) (.int .i64)))) (.row 4 .bool))⟩),
 (70,⟨2,48,[.nils, .nils], .struct [(0,1),(1,1)],some (.cons (.row 137 (.cons (.cons .bool (.cons (.row 73 (.int .u64)) (.row 73 (.int .u64)))) (.cons (.int .u64) (.int .i64)))) (.row 4 .bool))⟩),
 (72,⟨1,8,[.nilp], .ptr,none⟩),
 (73,⟨1,8,[.ro (.int .u64) (0:Int)], .int .u64,some (.int .u64)⟩),
 (74,⟨6,48,[.ro (.int .i64) (0:Int), .ro (.int .i64) (0:Int), .ro (.int .i64) (0:Int), .ro (.int .i64) (0:Int), .ro (.int .i64) (0:Int), .ro (.int .u64) (0:Int)], .struct [(0,1),(1,1),(2,1),(3,1),(4,1),(5,1)],some (.cons (.int .i64) (.cons (.int .i64) (.cons (.int .i64) (.cons (.int .i64) (.cons (.int .i64) (.int .u64))))))⟩),
 (75,⟨6,48,[.ro (.int .i64) (0:Int), .ro (.int .i64) (0:Int), .ro (.int .i64) (0:Int), .ro (.int .i64) (0:Int), .ro (.int .i64) (0:Int), .ro (.int .u64) (0:Int)], .struct [(0,1),(1,1),(2,1),(3,1),(4,1),(5,1)],some (.cons (.int .i64) (.cons (.int .i64) (.cons (.int .i64) (.cons (.int .i64) (.cons (.int .i64) (.int .u64))))))⟩),
 (77,⟨1,8,[.nilp], .ptr,none⟩),
 (86,⟨7,56,[.ro (.int .i64) (0:Int), .ro (.int .i64) (0:Int), .ro (.int .i64) (0:Int), .ro (.int .i64) (0:Int), .ro (.int .i64) (0:Int), .ro .bool false, .ro (.int .i64) (0:Int)], .struct [(0,1),(1,1),(2,1),(3,1),(4,1),(5,1),(6,1)],some (.cons (.int .i64) (.cons (.int .i64) (.cons (.int .i64) (.cons (.int .i64) (.cons (.int .i64) (.cons .bool (.int .i64)))))))⟩),
 (87,⟨7,56,[.ro (.int .i64) (0:Int), .ro (.int .i64) (0:Int), .ro (.int .i64) (0:Int), .ro (.int .i64) (0:Int), .ro (.int .i64) (0:Int), .ro .bool false, .ro (.int .i64) (0:Int)], .struct [(0,1),(1,1),(2,1),(3,1),(4,1),(5,1),(6,1)],some (.cons (.int .i64) (.cons (.int .i64) (.cons (.int .i64) (.cons (.int .i64) (.cons (.int .i64) (.cons .bool (.int .i64)))))))⟩),
 (92,⟨6,80,[.ro (.int .i64) (0:Int), .ro (.int .i64) (0:Int), .ro (.int .i64) (0:Int), .ro .bool false, .nils, .nils], .struct [(0,1),(1,1),(2,1),(3,3)],some (.cons (.int .i64) (.cons (.int .i64) (.cons (.int .i64) (.cons .bool (.cons (.row 73 (.int .u64)) (.row 73 (.int .u64)))))))⟩),
 (93,⟨6,80,[.ro (.int .i64) (0:Int), .ro (.int .i64) (0:Int), .ro (.int .i64) (0:Int), .ro .bool false, .nils, .nils], .struct [(0,1),(1,1),(2,1),(3,3)],some (.cons (.int .i64) (.cons (.int .i64) (.cons (.int .i64) (.cons .bool (.cons (.row 73 (.int .u64)) (.row 73 (.int .u64)))))))⟩),
 (100,⟨1,8,[.nilp], .ptr,none⟩),
 (102,⟨3,72,[.nils, .nils, .nils], .struct [(0,1),(1,1),(2,1)],some (.cons (.row 45 (.cons .bool (.cons (.row 73 (.int .u64)) (.row 73 (.int .u64))))) (.cons (.row 45 (.cons .bool (.cons (.row 73 (.int .u64)) (.row 73 (.int .u64))))) (.row 45 (.cons .bool (.cons (.row 73 (.int .u64)) (.row 73 (.int .u64)))))))⟩),
 (103,⟨3,72,[.nils, .nils, .nils], .struct [(0,1),(1,1),(2,1)],some (.cons (.row 45 (.cons .bool (.cons (.row 73 (.int .u64)) (.row 73 (.int .u64))))) (.cons (.row 45 (.cons .bool (.cons (.row 73 (.int .u64)) (.row 73 (.int .u64))))) (.row 45 (.cons .bool (.cons (.row 73 (.int .u64)) (.row 73 (.int .u64)))))))⟩),
 (113,⟨6,112,[.ro .bool false, .nils, .nils, .ro .bool false, .nils, .nils], .arr 2 45,some (.cons (.cons .bool (.cons (.row 73 (.int .u64)) (.row 73 (.int .u64)))) (.cons .bool (.cons (.row 73 (.int .u64)) (.row 73 (.int .u64)))))⟩),
 (122,⟨1,8,[.nilp], .ptr,none⟩),
 (123,⟨4,80,[.nils, .nils, .nils, .ro (.int .i64) (0:Int)], .struct [(0,1),(1,1),(2,1),(3,1)],some (.cons (.row 45 (.cons .bool (.cons (.row 73 (.int .u64)) (.row 73 (.int .u64))))) (.cons (.row 45 (.cons .bool (.cons (.row 73 (.int .u64)) (.row 73 (.int .u64))))) (.cons (.row 45 (.cons .bool (.cons (.row 73 (.int .u64)) (.row 73 (.int .u64))))) (.int .i64))))⟩),
 (124,⟨4,80,[.nils, .nils, .nils, .ro (.int .i64) (0:Int)], .struct [(0,1),(1,1),(2,1),(3,1)],some (.cons (.row 45 (.cons .bool (.cons (.row 73 (.int .u64)) (.row 73 (.int .u64))))) (.cons (.row 45 (.cons .bool (.cons (.row 73 (.int .u64)) (.row 73 (.int .u64))))) (.cons (.row 45 (.cons .bool (.cons (.row 73 (.int .u64)) (.row 73 (.int .u64))))) (.int .i64))))⟩),
 (133,⟨1,8,[.junk], .map 3 3,none⟩),
 (134,⟨9,120,[.ro (.int .i64) (0:Int), .ro (.int .i64) (0:Int), .nils, .nils, .nils, .ro (.int .i64) (0:Int), .ro (.int .i64) (0:Int), .ro .bool false, .ro (.int .i64) (0:Int)], .struct [(0,1),(1,1),(2,1),(3,1),(4,1),(5,1),(6,1),(7,1),(8,1)],some (.cons (.int .i64) (.cons (.int .i64) (.cons (.row 93 (.cons (.int .i64) (.cons (.int .i64) (.cons (.int .i64) (.cons .bool (.cons (.row 73 (.int .u64)) (.row 73 (.int .u64)))))))) (.cons (.row 4 .bool) (.cons (.row 4 .bool) (.cons (.int .i64) (.cons (.int .i64) (.cons .bool (.int .i64)))))))))⟩),
 (135,⟨9,120,[.ro (.int .i64) (0:Int), .ro (.int .i64) (0:Int), .nils, .nils, .nils, .ro (.int .i64) (0:Int), .ro (.int .i64) (0:Int), .ro .bool false, .ro (.int .i64) (0:Int)], .struct [(0,1),(1,1),(2,1),(3,1),(4,1),(5,1),(6,1),(7,1),(8,1)],some (.cons (.int .i64) (.cons (.int .i64) (.cons (.row 93 (.cons (.int .i64) (.cons (.int .i64) (.cons (.int .i64) (.cons .bool (.cons (.row 73 (.int .u64)) (.row 73 (.int .u64)))))))) (.cons (.row 4 .bool) (.cons (.row 4 .bool) (.cons (.int .i64) (.cons (.int .i64) (.cons .bool (.int .i64)))))))))⟩),
 (136,⟨5,72,[.ro .bool false, .nils, .nils, .ro (.int .u64) (0:Int), .ro (.int .i64) (0:Int)], .struct [(0,3),(3,1),(4,1)],some (.cons (.cons .bool (.cons (.row 73 (.int .u64)) (.row 73 (.int .u64)))) (.cons (.int .u64) (.int .i64)))⟩),
 (137,⟨5,72,[.ro .bool false, .nils, .nils, .ro (.int .u64) (0:Int), .ro (.int .i64) (0:Int)], .struct [(0,3),(3,1),(4,1)],some (.cons (.cons .bool (.cons (.row 73 (.int .u64)) (.row 73 (.int .u64)))) (.cons (.int .u64) (.int .i64)))⟩),
 (141,⟨3,24,[.ro (.int .i64) (0:Int), .ro (.int .i64) (0:Int), .ro (.int .u64) (0:Int)], .struct [(0,1),(1,1),(2,1)],some (.cons (.int .i64) (.cons (.int .i64) (.int .u64)))⟩),
 (142,⟨3,24,[.ro (.int .i64) (0:Int), .ro (.int .i64) (0:Int), .ro (.int .u64) (0:Int)], .struct [(0,1),(1,1),(2,1)],some (.cons (.int .i64) (.cons (.int .i64) (.int .u64)))⟩),
 (150,⟨1,8,[.nilp], .ptr,none⟩),
 (155,⟨1,8,[.ro (.int .u64) (0:Int)], .int .u64,some (.int .u64)⟩),
 (190,⟨3,24,[.ro .bool false, .ro (.int .u64) (0:Int), .ro (.int .i64) (0:Int)], .struct [(0,1),(1,1),(2,1)],some (.cons .bool (.cons (.int .u64) (.int .i64)))⟩),
 (191,⟨3,24,[.ro .bool false, .ro (.int .u64) (0:Int), .ro (.int .i64) (0:Int)], .struct [(0,1),(1,1),(2,1)],some (.cons .bool (.cons (.int .u64) (.int .i64)))⟩),
 (202,⟨14,112,[.ro (.int .i64) (0:Int), .ro (.int .i64) (0:Int), .ro (.int .i64) (0:Int), .ro (.int .i64) (0:Int), .ro (.int .i64) (0:Int), .ro (.int .i64) (0:Int), .ro (.int .i64) (0:Int), .ro (.int .i64) (0:Int), .ro (.int .i64) (0:Int), .ro (.int .i64) (0:Int), .ro (.int .i64) (0:Int), .ro (.int .i64) (0:Int), .ro (.int .i64) (0:Int), .ro (.int .i64) (0:Int)], .arr 14 3,none⟩),
 (221,⟨1,4,[.ro (.int .u32) (0:Int)], .int .u32,some (.int .u32)⟩),
 (225,⟨1,8,[.nilp], .ptr,none⟩)]
theorem tab_ok:Tab.ok Tryz.prog tab=true:=by kernel_rfl
end Go.Proofs.YtjocbnjpjihpnaaGreat.A
namespace Go.Proofs.YtjocbnjpjihpnaaGreat.A
open Go.RowKit Go.Proofs.YtjocbnjpjihpnaaGreat.P Go.Proofs.YtjocbnjpjihpnaaGreatW.PrintWords Go.Proofs.YtjocbnjpjihpnaaGreatW.PrintLast Go.Proofs.YtjocbnjpjihpnaaGreatW.PrintMore Go.Proofs.YtjocbnjpjihpnaaGreatW.Abs
set_option linter.unusedVariables false
set_option linter.unusedSimpArgs false
set_option maxRecDepth 100000
set_option maxHeartbeats 4000000
section
def s_nat_Right:FSpec:=⟨[(.row 73 (.int .u64))],[.bool],fun _ x=>(nat_Right.f x.1).map fun r=>(r,())⟩
def m_nat_Right (r:Bool):TT s_nat_Right.rs:=(r,())
theorem o_nat_Right:FOk Tryz.prog 110 s_nat_Right :=
 fn_of (Bt:=blook []) (l:= []) (C:=noCuts) (by kernel_rfl) tab_ok trivial (fn:=Tryz.f110) (by kernel_rfl) rfl (by kernel_rfl) (by decide) (by kernel_rfl) (F:=fun k x=>nat_Right.f x.1) (m:=m_nat_Right) (fun k x=>rfl)
  (by exact trivial)
  (fun k ⟨(a0:List Int),_⟩=>by show LeT m_nat_Right (nat_Right.f a0) _;unfold nat_Right.f;exact go)
end
section
def s_nat_size:FSpec:=⟨[(.row 73 (.int .u64))],[.int .i64],fun k x=>(nat_size.f k x.1).map fun r=>(r,())⟩
def m_nat_size (r:Int):TT s_nat_size.rs:=(r,())
@[reducible] def q0_nat_size:List Slot:= [.tmp 0 [.ty (.row 73 (.int .u64))], .tmp 3 [.ty (.int .i64)]]
def g0_nat_size (k:Nat) (x:TS q0_nat_size):Option (Int):=nat_size.l0 k x.1.1 x.2.1.1
def c_nat_size:Cuts (TT s_nat_size.rs):=⟨⟨19,19,[]⟩,lookC [(0,⟨q0_nat_size,fun k x=>(g0_nat_size k x).map m_nat_size⟩)],lookC [],lookC []⟩
theorem o_nat_size:FOk Tryz.prog 192 s_nat_size :=
 fn_of (Bt:=blook []) (l:= []) (C:=c_nat_size) (by kernel_rfl) tab_ok trivial (fn:=Tryz.f192) (by kernel_rfl) rfl (by kernel_rfl) (by decide) (by kernel_rfl) (F:=fun k x=>nat_size.f k x.1) (m:=m_nat_size) (fun k x=>rfl)
  (by
   refine And.intro ?_ ?_
   ·refine ob_loop (sl:=q0_nat_size) (F:=g0_nat_size) (fun x=>rfl) fun k ⟨⟨(x0:List Int),_⟩,⟨(x3:Int),_⟩,_⟩=> ?_
    show LeT m_nat_size (nat_size.l0 (k+1) x0 x3) _
    rw [nat_size.l0];exact go
   exact trivial)
  (fun k ⟨(a0:List Int),_⟩=>by show LeT m_nat_size (nat_size.f k a0) _;unfold nat_size.f;exact go)
end
section
attribute [local irreducible] nat_size.f
def s_nat_Trim:FSpec:=⟨[(.row 73 (.int .u64))],[(.row 73 (.int .u64))],fun k x=>(nat_Trim.f k x.1).map fun r=>(r,())⟩
def m_nat_Trim (r:List Int):TT s_nat_Trim.rs:=(r,())
theorem o_nat_Trim:FOk Tryz.prog 187 s_nat_Trim :=
 fn_of (Bt:=blook []) (l:= [(192, .pu s_nat_size)]) (C:=noCuts) (by kernel_rfl) tab_ok ⟨o_nat_size,trivial⟩ (fn:=Tryz.f187) (by kernel_rfl) rfl (by kernel_rfl) (by decide) (by kernel_rfl) (F:=fun k x=>nat_Trim.f k x.1) (m:=m_nat_Trim) (fun k x=>rfl)
  (by exact trivial)
  (fun k ⟨(a0:List Int),_⟩=>by show LeT m_nat_Trim (nat_Trim.f k a0) _;unfold nat_Trim.f;exact go)
end
section
attribute [local irreducible] nat_Trim.f
def s_nat_Of:FSpec:=⟨[.int .u64],[(.row 73 (.int .u64))],fun k x=>(nat_Of.f k x.1).map fun r=>(r,())⟩
def m_nat_Of (r:List Int):TT s_nat_Of.rs:=(r,())
theorem o_nat_Of:FOk Tryz.prog 117 s_nat_Of :=
 fn_of (Bt:=blook []) (l:= [(187, .pu s_nat_Trim)]) (C:=noCuts) (by kernel_rfl) tab_ok ⟨o_nat_Trim,trivial⟩ (fn:=Tryz.f117) (by kernel_rfl) rfl (by kernel_rfl) (by decide) (by kernel_rfl) (F:=fun k x=>nat_Of.f k x.1) (m:=m_nat_Of) (fun k x=>rfl)
  (by exact trivial)
  (fun k ⟨(a0:Int),_⟩=>by show LeT m_nat_Of (nat_Of.f k a0) _;unfold nat_Of.f;exact go)
end
section
attribute [local irreducible] nat_size.f
def s_nat_Cmp:FSpec:=⟨[(.row 73 (.int .u64)),(.row 73 (.int .u64))],[.int .i64],fun k x=>(nat_Cmp.f k x.1 x.2.1).map fun r=>(r,())⟩
def m_nat_Cmp (r:Int):TT s_nat_Cmp.rs:=(r,())
@[reducible] def q0_nat_Cmp:List Slot:= [.tmp 0 [.ty (.row 73 (.int .u64))], .tmp 1 [.ty (.row 73 (.int .u64))], .tmp 7 [.ty (.int .i64)]]
def g0_nat_Cmp (k:Nat) (x:TS q0_nat_Cmp):Option (Int):=nat_Cmp.l0 k x.1.1 x.2.1.1 x.2.2.1.1
def c_nat_Cmp:Cuts (TT s_nat_Cmp.rs):=⟨⟨44,44,[]⟩,lookC [(0,⟨q0_nat_Cmp,fun k x=>(g0_nat_Cmp k x).map m_nat_Cmp⟩)],lookC [],lookC []⟩
theorem o_nat_Cmp:FOk Tryz.prog 131 s_nat_Cmp :=
 fn_of (Bt:=blook [(9,[0,0,3,7,0,0,48,112,255,511]),(11,[0,0,3,7,0,0,48,112,255,511])]) (l:= [(192, .pu s_nat_size)]) (C:=c_nat_Cmp) (by kernel_rfl) tab_ok ⟨o_nat_size,trivial⟩ (fn:=Tryz.f131) (by kernel_rfl) rfl (by kernel_rfl) (by decide) (by kernel_rfl) (F:=fun k x=>nat_Cmp.f k x.1 x.2.1) (m:=m_nat_Cmp) (fun k x=>rfl)
  (by
   refine And.intro ?_ ?_
   ·refine ob_loop (sl:=q0_nat_Cmp) (F:=g0_nat_Cmp) (fun x=>rfl) fun k ⟨⟨(x0:List Int),_⟩,⟨(x1:List Int),_⟩,⟨(x7:Int),_⟩,_⟩=> ?_
    show LeT m_nat_Cmp (nat_Cmp.l0 (k+1) x0 x1 x7) _
    rw [nat_Cmp.l0];exact go
   exact trivial)
  (fun k ⟨(a0:List Int),(a1:List Int),_⟩=>by show LeT m_nat_Cmp (nat_Cmp.f k a0 a1) _;unfold nat_Cmp.f;exact go)
end
section
def s_limb_Len:FSpec:=⟨[.int .u64],[.int .i64],fun k x=>(limb_Len.f k x.1).map fun r=>(r,())⟩
def m_limb_Len (r:Int):TT s_limb_Len.rs:=(r,())
@[reducible] def q0_limb_Len:List Slot:= [.tmp 0 [.ty (.int .u64)], .tmp 3 [.ty (.int .i64)], .tmp 4 [.ty (.int .i64)]]
def g0_limb_Len (k:Nat) (x:TS q0_limb_Len):Option (Int):=limb_Len.l0 k x.1.1 x.2.1.1 x.2.2.1.1
def c_limb_Len:Cuts (TT s_limb_Len.rs):=⟨⟨23,23,[]⟩,lookC [(0,⟨q0_limb_Len,fun k x=>(g0_limb_Len k x).map m_limb_Len⟩)],lookC [],lookC []⟩
theorem o_limb_Len:FOk Tryz.prog 195 s_limb_Len :=
 fn_of (Bt:=blook []) (l:= []) (C:=c_limb_Len) (by kernel_rfl) tab_ok trivial (fn:=Tryz.f195) (by kernel_rfl) rfl (by kernel_rfl) (by decide) (by kernel_rfl) (F:=fun k x=>limb_Len.f k x.1) (m:=m_limb_Len) (fun k x=>rfl)
  (by
   refine And.intro ?_ ?_
   ·refine ob_loop (sl:=q0_limb_Len) (F:=g0_limb_Len) (fun x=>rfl) fun k ⟨⟨(x0:Int),_⟩,⟨(x3:Int),_⟩,⟨(x4:Int),_⟩,_⟩=> ?_
    show LeT m_limb_Len (limb_Len.l0 (k+1) x0 x3 x4) _
    rw [limb_Len.l0];exact go
   exact trivial)
  (fun k ⟨(a0:Int),_⟩=>by show LeT m_limb_Len (limb_Len.f k a0) _;unfold limb_Len.f;exact go)
end
section
def s_limb_digit:FSpec:=⟨[.int .u64, .int .u64, .int .u64],[.int .u64, .int .u64],fun k x=>(limb_digit.f k x.1 x.2.1 x.2.2.1).map fun r=>(r.1,r.2,())⟩
def m_limb_digit (r:Int × Int):TT s_limb_digit.rs:=(r.1,r.2,())
@[reducible] def q0_limb_digit:List Slot:= [.tmp 0 [.ty (.int .u64)], .tmp 1 [.ty (.int .u64)], .tmp 2 [.ty (.int .u64)], .tmp 8 [.ty (.int .u64)], .tmp 9 [.ty (.int .u64)], .tmp 10 [.ty (.int .u64)], .tmp 11 [.ty (.int .u64)]]
def g0_limb_digit (k:Nat) (x:TS q0_limb_digit):Option (Int × Int):=limb_digit.l0 k x.1.1 x.2.1.1 x.2.2.1.1 x.2.2.2.1.1 x.2.2.2.2.1.1 x.2.2.2.2.2.1.1 x.2.2.2.2.2.2.1.1
@[reducible] def q1_limb_digit:List Slot:= [.tmp 0 [.ty (.int .u64)], .tmp 1 [.ty (.int .u64)], .tmp 2 [.ty (.int .u64)], .tmp 8 [.ty (.int .u64)], .tmp 9 [.ty (.int .u64)], .tmp 10 [.ty (.int .u64)], .tmp 11 [.ty (.int .u64)], .tmp 33 [.ty .bool]]
def g1_limb_digit (k:Nat) (x:TS q1_limb_digit):Option (Int × Int):=limb_digit.j1 k x.1.1 x.2.1.1 x.2.2.1.1 x.2.2.2.1.1 x.2.2.2.2.1.1 x.2.2.2.2.2.1.1 x.2.2.2.2.2.2.1.1 x.2.2.2.2.2.2.2.1.1
def c_limb_digit:Cuts (TT s_limb_digit.rs):=⟨⟨50,50,[]⟩,lookC [(0,⟨q0_limb_digit,fun k x=>(g0_limb_digit k x).map m_limb_digit⟩)],lookC [],lookC [(4,⟨q1_limb_digit,fun k x=>(g1_limb_digit k x).map m_limb_digit⟩)]⟩
theorem o_limb_digit:FOk Tryz.prog 257 s_limb_digit :=
 fn_of (Bt:=blook []) (l:= []) (C:=c_limb_digit) (by kernel_rfl) tab_ok trivial (fn:=Tryz.f257) (by kernel_rfl) rfl (by kernel_rfl) (by decide) (by kernel_rfl) (F:=fun k x=>limb_digit.f k x.1 x.2.1 x.2.2.1) (m:=m_limb_digit) (fun k x=>rfl)
  (by
   refine And.intro ?_ ?_
   ·refine ob_loop (sl:=q0_limb_digit) (F:=g0_limb_digit) (fun x=>rfl) fun k ⟨⟨(x0:Int),_⟩,⟨(x1:Int),_⟩,⟨(x2:Int),_⟩,⟨(x8:Int),_⟩,⟨(x9:Int),_⟩,⟨(x10:Int),_⟩,⟨(x11:Int),_⟩,_⟩=> ?_
    show LeT m_limb_digit (limb_digit.l0 (k+1) x0 x1 x2 x8 x9 x10 x11) _
    rw [limb_digit.l0];exact go
   refine And.intro ?_ ?_
   ·refine ob_join1 (sl:=q1_limb_digit) (F:=g1_limb_digit) (fun x=>rfl) fun k ⟨⟨(x0:Int),_⟩,⟨(x1:Int),_⟩,⟨(x2:Int),_⟩,⟨(x8:Int),_⟩,⟨(x9:Int),_⟩,⟨(x10:Int),_⟩,⟨(x11:Int),_⟩,⟨(x33:Bool),_⟩,_⟩=> ?_
    show LeT m_limb_digit (limb_digit.j1 (k+1) x0 x1 x2 x8 x9 x10 x11 x33) _
    rw [limb_digit.j1];exact go
   exact trivial)
  (fun k ⟨(a0:Int),(a1:Int),(a2:Int),_⟩=>by show LeT m_limb_digit (limb_digit.f k a0 a1 a2) _;unfold limb_digit.f;exact go)
end
section
attribute [local irreducible] limb_Len.f limb_digit.f
def s_limb_Div:FSpec:=⟨[.int .u64, .int .u64, .int .u64],[.int .u64, .int .u64, .bool],fun k x=>(limb_Div.f k x.1 x.2.1 x.2.2.1).map fun r=>(r.1,r.2.1,r.2.2,())⟩
def m_limb_Div (r:Int × Int × Bool):TT s_limb_Div.rs:=(r.1,r.2.1,r.2.2,())
theorem o_limb_Div:FOk Tryz.prog 218 s_limb_Div :=
 fn_of (Bt:=blook [(5,[0,0,3,0,8,0,32,120,255,511]),(9,[0,1,0,7,0,0,48,15,255,511])]) (l:= [(195, .pu s_limb_Len),(257, .pu s_limb_digit)]) (C:=noCuts) (by kernel_rfl) tab_ok ⟨o_limb_Len,o_limb_digit,trivial⟩ (fn:=Tryz.f218) (by kernel_rfl) rfl (by kernel_rfl) (by decide) (by kernel_rfl) (F:=fun k x=>limb_Div.f k x.1 x.2.1 x.2.2.1) (m:=m_limb_Div) (fun k x=>rfl)
  (by exact trivial)
  (fun k ⟨(a0:Int),(a1:Int),(a2:Int),_⟩=>by show LeT m_limb_Div (limb_Div.f k a0 a1 a2) _;unfold limb_Div.f;exact go)
end
section
attribute [local irreducible] nat_Trim.f limb_Div.f
def s_quot_Word:FSpec:=⟨[(.row 73 (.int .u64)), .int .u64],[(.row 73 (.int .u64)), .int .u64, .bool],fun k x=>(quot_Word.f k x.1 x.2.1).map fun r=>(r.1,r.2.1,r.2.2,())⟩
def m_quot_Word (r:List Int × Int × Bool):TT s_quot_Word.rs:=(r.1,r.2.1,r.2.2,())
@[reducible] def q0_quot_Word:List Slot:= [.tmp 0 [.ty (.row 73 (.int .u64))], .tmp 1 [.ty (.int .u64)], .tmp 7 [.own .mine 7 73 (.int .u64)], .tmp 8 [.ty (.int .u64)], .tmp 9 [.ty (.int .i64)]]
def g0_quot_Word (k:Nat) (x:TS q0_quot_Word):Option (List Int × Int × Bool):=quot_Word.l0 k x.1.1 x.2.1.1 x.2.2.1.1 x.2.2.2.1.1 x.2.2.2.2.1.1
def c_quot_Word:Cuts (TT s_quot_Word.rs):=⟨⟨44,44,[]⟩,lookC [(0,⟨q0_quot_Word,fun k x=>(g0_quot_Word k x).map m_quot_Word⟩)],lookC [],lookC []⟩
theorem o_quot_Word:FOk Tryz.prog 200 s_quot_Word :=
 fn_of (Bt:=blook []) (l:= [(187, .pu s_nat_Trim),(218, .pu s_limb_Div)]) (C:=c_quot_Word) (by kernel_rfl) tab_ok ⟨o_nat_Trim,o_limb_Div,trivial⟩ (fn:=Tryz.f200) (by kernel_rfl) rfl (by kernel_rfl) (by decide) (by kernel_rfl) (F:=fun k x=>quot_Word.f k x.1 x.2.1) (m:=m_quot_Word) (fun k x=>rfl)
  (by
   refine And.intro ?_ ?_
   ·refine ob_loop (sl:=q0_quot_Word) (F:=g0_quot_Word) (fun x=>rfl) fun k ⟨⟨(x0:List Int),_⟩,⟨(x1:Int),_⟩,⟨(x7:List Int),_⟩,⟨(x8:Int),_⟩,⟨(x9:Int),_⟩,_⟩=> ?_
    show LeT m_quot_Word (quot_Word.l0 (k+1) x0 x1 x7 x8 x9) _
    rw [quot_Word.l0];exact go
   exact trivial)
  (fun k ⟨(a0:List Int),(a1:Int),_⟩=>by show LeT m_quot_Word (quot_Word.f k a0 a1) _;unfold quot_Word.f;exact go)
end
section
attribute [local irreducible] nat_size.f limb_Len.f
def s_nat_Bits:FSpec:=⟨[(.row 73 (.int .u64))],[.int .i64],fun k x=>(nat_Bits.f k x.1).map fun r=>(r,())⟩
def m_nat_Bits (r:Int):TT s_nat_Bits.rs:=(r,())
theorem o_nat_Bits:FOk Tryz.prog 134 s_nat_Bits :=
 fn_of (Bt:=blook []) (l:= [(192, .pu s_nat_size),(195, .pu s_limb_Len)]) (C:=noCuts) (by kernel_rfl) tab_ok ⟨o_nat_size,o_limb_Len,trivial⟩ (fn:=Tryz.f134) (by kernel_rfl) rfl (by kernel_rfl) (by decide) (by kernel_rfl) (F:=fun k x=>nat_Bits.f k x.1) (m:=m_nat_Bits) (fun k x=>rfl)
  (by exact trivial)
  (fun k ⟨(a0:List Int),_⟩=>by show LeT m_nat_Bits (nat_Bits.f k a0) _;unfold nat_Bits.f;exact go)
end
section
def n_nat_Shl:NSpec:=⟨[(.row 73 (.int .u64)), .int .i64],73, .int .u64,fun k x=>(nat_Shl.f k x.1 x.2.1).map fun r=>r⟩
theorem on_nat_Shl:FNk Tryz.prog 210 n_nat_Shl:=⟨by kernel_rfl,fun k x r h U w vs hU ha0=>by
 have h:nat_Shl.f k x.1 x.2.1=some r:=by
  obtain ⟨r0,h0,rfl⟩:=Option.map_eq_some_iff.mp h
  exact h0
 obtain ⟨cs0,vs0,rfl,q0,ha1⟩:=ha0.cons
 obtain ⟨A0,c0,rfl,C0,le0⟩:=row_arg q0
 obtain ⟨cs1,vs1,rfl,q1,ha2⟩:=ha1.cons
 obtain rfl:=(show _= [Value.int .i64 (x.2.1)] from q1)
 obtain rfl:vs1= []:=ha2
 refine (nat_Shl.calls (k:=k) (A0:=A0) (c0:=c0) (l0:=x.1) (hr0:=C0) (hc0:=le0) (a1:=x.2.1) (r:=r) (w:=w) (h:=h)).mono ?_
 rintro e w' ⟨v,rfl,R,hb⟩
 obtain ⟨inner,h1,h2⟩:=new_res R
 exact ⟨v,inner,rfl,h1,h2,hb⟩⟩
end
section
def s_limb_Sub:FSpec:=⟨[.int .u64, .int .u64, .int .u64],[.int .u64, .int .u64],fun _ x=>(limb_Sub.f x.1 x.2.1 x.2.2.1).map fun r=>(r.1,r.2,())⟩
def m_limb_Sub (r:Int × Int):TT s_limb_Sub.rs:=(r.1,r.2,())
theorem o_limb_Sub:FOk Tryz.prog 194 s_limb_Sub :=
 fn_of (Bt:=blook []) (l:= []) (C:=noCuts) (by kernel_rfl) tab_ok trivial (fn:=Tryz.f194) (by kernel_rfl) rfl (by kernel_rfl) (by decide) (by kernel_rfl) (F:=fun k x=>limb_Sub.f x.1 x.2.1 x.2.2.1) (m:=m_limb_Sub) (fun k x=>rfl)
  (by exact trivial)
  (fun k ⟨(a0:Int),(a1:Int),(a2:Int),_⟩=>by show LeT m_limb_Sub (limb_Sub.f a0 a1 a2) _;unfold limb_Sub.f;exact go)
end
section
def s_limb_Mul:FSpec:=⟨[.int .u64, .int .u64],[.int .u64, .int .u64],fun _ x=>(limb_Mul.f x.1 x.2.1).map fun r=>(r.1,r.2,())⟩
def m_limb_Mul (r:Int × Int):TT s_limb_Mul.rs:=(r.1,r.2,())
theorem o_limb_Mul:FOk Tryz.prog 196 s_limb_Mul :=
 fn_of (Bt:=blook []) (l:= []) (C:=noCuts) (by kernel_rfl) tab_ok trivial (fn:=Tryz.f196) (by kernel_rfl) rfl (by kernel_rfl) (by decide) (by kernel_rfl) (F:=fun k x=>limb_Mul.f x.1 x.2.1) (m:=m_limb_Mul) (fun k x=>rfl)
  (by exact trivial)
  (fun k ⟨(a0:Int),(a1:Int),_⟩=>by show LeT m_limb_Mul (limb_Mul.f a0 a1) _;unfold limb_Mul.f;exact go)
end
section
attribute [local irreducible] limb_Sub.f limb_Mul.f
def s_quot_correct:FSpec:=⟨[.int .u64, .int .u64, .int .u64, .int .u64, .int .u64, .int .u64],[.int .u64],fun k x=>(quot_correct.f k x.1 x.2.1 x.2.2.1 x.2.2.2.1 x.2.2.2.2.1 x.2.2.2.2.2.1).map fun r=>(r,())⟩
def m_quot_correct (r:Int):TT s_quot_correct.rs:=(r,())
@[reducible] def q0_quot_correct:List Slot:= [.tmp 0 [.ty (.int .u64)], .tmp 1 [.ty (.int .u64)], .tmp 2 [.ty (.int .u64)], .tmp 3 [.ty (.int .u64)], .tmp 4 [.ty (.int .u64)], .tmp 5 [.ty (.int .u64)]]
def g0_quot_correct (k:Nat) (x:TS q0_quot_correct):Option (Int):=quot_correct.l0 k x.1.1 x.2.1.1 x.2.2.1.1 x.2.2.2.1.1 x.2.2.2.2.1.1 x.2.2.2.2.2.1.1
def c_quot_correct:Cuts (TT s_quot_correct.rs):=⟨⟨64,64,[]⟩,lookC [(0,⟨q0_quot_correct,fun k x=>(g0_quot_correct k x).map m_quot_correct⟩)],lookC [],lookC []⟩
theorem o_quot_correct:FOk Tryz.prog 260 s_quot_correct :=
 fn_of (Bt:=blook []) (l:= [(194, .pu s_limb_Sub),(196, .pu s_limb_Mul)]) (C:=c_quot_correct) (by kernel_rfl) tab_ok ⟨o_limb_Sub,o_limb_Mul,trivial⟩ (fn:=Tryz.f260) (by kernel_rfl) rfl (by kernel_rfl) (by decide) (by kernel_rfl) (F:=fun k x=>quot_correct.f k x.1 x.2.1 x.2.2.1 x.2.2.2.1 x.2.2.2.2.1 x.2.2.2.2.2.1) (m:=m_quot_correct) (fun k x=>rfl)
  (by
   refine And.intro ?_ ?_
   ·refine ob_loop (sl:=q0_quot_correct) (F:=g0_quot_correct) (fun x=>rfl) fun k ⟨⟨(x0:Int),_⟩,⟨(x1:Int),_⟩,⟨(x2:Int),_⟩,⟨(x3:Int),_⟩,⟨(x4:Int),_⟩,⟨(x5:Int),_⟩,_⟩=> ?_
    show LeT m_quot_correct (quot_correct.l0 (k+1) x0 x1 x2 x3 x4 x5) _
    rw [quot_correct.l0];exact go
   exact trivial)
  (fun k ⟨(a0:Int),(a1:Int),(a2:Int),(a3:Int),(a4:Int),(a5:Int),_⟩=>by show LeT m_quot_correct (quot_correct.f k a0 a1 a2 a3 a4 a5) _;unfold quot_correct.f;exact go)
end
section
attribute [local irreducible] limb_Div.f quot_correct.f
def s_quot_guess:FSpec:=⟨[(.row 73 (.int .u64)), .int .i64, .int .u64, .int .u64],[.int .u64],fun k x=>(quot_guess.f k x.1 x.2.1 x.2.2.1 x.2.2.2.1).map fun r=>(r,())⟩
def m_quot_guess (r:Int):TT s_quot_guess.rs:=(r,())
theorem o_quot_guess:FOk Tryz.prog 246 s_quot_guess :=
 fn_of (Bt:=blook [(1,[0,0,3,7,0,0,32,112,240,0,0,1024,3584,7680,15,16895,65535])]) (l:= [(218, .pu s_limb_Div),(260, .pu s_quot_correct)]) (C:=noCuts) (by kernel_rfl) tab_ok ⟨o_limb_Div,o_quot_correct,trivial⟩ (fn:=Tryz.f246) (by kernel_rfl) rfl (by kernel_rfl) (by decide) (by kernel_rfl) (F:=fun k x=>quot_guess.f k x.1 x.2.1 x.2.2.1 x.2.2.2.1) (m:=m_quot_guess) (fun k x=>rfl)
  (by exact trivial)
  (fun k ⟨(a0:List Int),(a1:Int),(a2:Int),(a3:Int),_⟩=>by show LeT m_quot_guess (quot_guess.f k a0 a1 a2 a3) _;unfold quot_guess.f;exact go)
end
section
def s_limb_Add:FSpec:=⟨[.int .u64, .int .u64, .int .u64],[.int .u64, .int .u64],fun _ x=>(limb_Add.f x.1 x.2.1 x.2.2.1).map fun r=>(r.1,r.2,())⟩
def m_limb_Add (r:Int × Int):TT s_limb_Add.rs:=(r.1,r.2,())
theorem o_limb_Add:FOk Tryz.prog 193 s_limb_Add :=
 fn_of (Bt:=blook []) (l:= []) (C:=noCuts) (by kernel_rfl) tab_ok trivial (fn:=Tryz.f193) (by kernel_rfl) rfl (by kernel_rfl) (by decide) (by kernel_rfl) (F:=fun k x=>limb_Add.f x.1 x.2.1 x.2.2.1) (m:=m_limb_Add) (fun k x=>rfl)
  (by exact trivial)
  (fun k ⟨(a0:Int),(a1:Int),(a2:Int),_⟩=>by show LeT m_limb_Add (limb_Add.f a0 a1 a2) _;unfold limb_Add.f;exact go)
end
section
attribute [local irreducible] limb_Add.f limb_Sub.f limb_Mul.f
def s_quot_take:ISpec:=⟨[.bor 73 (.int .u64), .ty (.row 73 (.int .u64)), .ty (.int .i64), .ty (.int .u64)],[.bool],fun k x=>(quot_take.f k x.1 x.2.1 x.2.2.1 x.2.2.2.1).map fun r=>((r.1,()),(r.2,()))⟩
def m_quot_take (r:Bool × List Int):TT s_quot_take.rs × ET s_quot_take.ps:=((r.1,()),(r.2,()))
@[reducible] def q0_quot_take:List Slot:= [.tmp 0 [.own .kept 84 73 (.int .u64)], .tmp 1 [.ty (.row 73 (.int .u64))], .tmp 2 [.ty (.int .i64)], .tmp 3 [.ty (.int .u64)], .tmp 9 [.ty (.int .u64)], .tmp 10 [.ty (.int .u64)], .tmp 20 [.ty (.row 73 (.int .u64))], .tmp 21 [.ty (.int .i64)], .tmp 22 [.ty (.int .i64)]]
def g0_quot_take (k:Nat) (x:TS q0_quot_take):Option (Bool × List Int):=quot_take.l0 k x.1.1 x.2.1.1 x.2.2.1.1 x.2.2.2.1.1 x.2.2.2.2.1.1 x.2.2.2.2.2.1.1 x.2.2.2.2.2.2.1.1 x.2.2.2.2.2.2.2.1.1 x.2.2.2.2.2.2.2.2.1.1
def c_quot_take:Cuts (TT s_quot_take.rs × ET s_quot_take.ps):=⟨⟨84,85,[84]⟩,lookC [(0,⟨q0_quot_take,fun k x=>(g0_quot_take k x).map m_quot_take⟩)],lookC [],lookC []⟩
theorem o_quot_take:FIk Tryz.prog 247 s_quot_take :=
 fi_of (Bt:=blook []) (l:= [(193, .pu s_limb_Add),(194, .pu s_limb_Sub),(196, .pu s_limb_Mul)]) (C:=c_quot_take) (by kernel_rfl) tab_ok ⟨o_limb_Add,o_limb_Sub,o_limb_Mul,trivial⟩ (fn:=Tryz.f247) (by kernel_rfl) rfl (by kernel_rfl) (by decide) (by kernel_rfl) (m:=85) (by decide) (by decide) (F:=fun k x=>quot_take.f k x.1 x.2.1 x.2.2.1 x.2.2.2.1) (q:=m_quot_take) (fun k x=>rfl)
  (by
   refine And.intro ?_ ?_
   ·refine ob_loop (sl:=q0_quot_take) (F:=g0_quot_take) (fun x=>rfl) fun k ⟨⟨(x0:List Int),_⟩,⟨(x1:List Int),_⟩,⟨(x2:Int),_⟩,⟨(x3:Int),_⟩,⟨(x9:Int),_⟩,⟨(x10:Int),_⟩,⟨(x20:List Int),_⟩,⟨(x21:Int),_⟩,⟨(x22:Int),_⟩,_⟩=> ?_
    show LeT m_quot_take (quot_take.l0 (k+1) x0 x1 x2 x3 x9 x10 x20 x21 x22) _
    rw [quot_take.l0];exact go
   exact trivial)
  (fun k ⟨(a0:List Int),(a1:List Int),(a2:Int),(a3:Int),_⟩=>by show LeT m_quot_take (quot_take.f k a0 a1 a2 a3) _;unfold quot_take.f;exact go)
end
section
attribute [local irreducible] limb_Add.f
def s_quot_back:ISpec:=⟨[.bor 73 (.int .u64), .ty (.row 73 (.int .u64)), .ty (.int .i64)],[],fun k x=>(quot_back.f k x.1 x.2.1 x.2.2.1).map fun r=>((()),(r,()))⟩
def m_quot_back (r:List Int):TT s_quot_back.rs × ET s_quot_back.ps:=((()),(r,()))
@[reducible] def q0_quot_back:List Slot:= [.tmp 0 [.own .kept 48 73 (.int .u64)], .tmp 1 [.ty (.row 73 (.int .u64))], .tmp 2 [.ty (.int .i64)], .tmp 6 [.ty (.int .u64)], .tmp 11 [.ty (.row 73 (.int .u64))], .tmp 12 [.ty (.int .i64)], .tmp 13 [.ty (.int .i64)]]
def g0_quot_back (k:Nat) (x:TS q0_quot_back):Option (List Int):=quot_back.l0 k x.1.1 x.2.1.1 x.2.2.1.1 x.2.2.2.1.1 x.2.2.2.2.1.1 x.2.2.2.2.2.1.1 x.2.2.2.2.2.2.1.1
def c_quot_back:Cuts (TT s_quot_back.rs × ET s_quot_back.ps):=⟨⟨48,49,[48]⟩,lookC [(0,⟨q0_quot_back,fun k x=>(g0_quot_back k x).map m_quot_back⟩)],lookC [],lookC []⟩
theorem o_quot_back:FIk Tryz.prog 248 s_quot_back :=
 fi_of (Bt:=blook []) (l:= [(193, .pu s_limb_Add)]) (C:=c_quot_back) (by kernel_rfl) tab_ok ⟨o_limb_Add,trivial⟩ (fn:=Tryz.f248) (by kernel_rfl) rfl (by kernel_rfl) (by decide) (by kernel_rfl) (m:=49) (by decide) (by decide) (F:=fun k x=>quot_back.f k x.1 x.2.1 x.2.2.1) (q:=m_quot_back) (fun k x=>rfl)
  (by
   refine And.intro ?_ ?_
   ·refine ob_loop (sl:=q0_quot_back) (F:=g0_quot_back) (fun x=>rfl) fun k ⟨⟨(x0:List Int),_⟩,⟨(x1:List Int),_⟩,⟨(x2:Int),_⟩,⟨(x6:Int),_⟩,⟨(x11:List Int),_⟩,⟨(x12:Int),_⟩,⟨(x13:Int),_⟩,_⟩=> ?_
    show LeT m_quot_back (quot_back.l0 (k+1) x0 x1 x2 x6 x11 x12 x13) _
    rw [quot_back.l0];exact go
   exact trivial)
  (fun k ⟨(a0:List Int),(a1:List Int),(a2:Int),_⟩=>by show LeT m_quot_back (quot_back.f k a0 a1 a2) _;unfold quot_back.f;exact go)
end
section
attribute [local irreducible] nat_Trim.f
def s_nat_Shr:FSpec:=⟨[(.row 73 (.int .u64)), .int .i64],[(.row 73 (.int .u64))],fun k x=>(nat_Shr.f k x.1 x.2.1).map fun r=>(r,())⟩
def m_nat_Shr (r:List Int):TT s_nat_Shr.rs:=(r,())
@[reducible] def q0_nat_Shr:List Slot:= [.tmp 0 [.ty (.row 73 (.int .u64))], .tmp 6 [.ty (.int .i64)], .tmp 7 [.own .mine 7 73 (.int .u64)], .tmp 8 [.ty (.int .i64)]]
def g0_nat_Shr (k:Nat) (x:TS q0_nat_Shr):Option (List Int):=match x with | ⟨⟨(x0:List Int),_⟩,⟨(x6:Int),_⟩,⟨(x7:List Int),_⟩,⟨(x8:Int),_⟩,_⟩=>if 0≤x6∧x6<64 then nat_Shr.l0 k x0 x6 x7 x8 else none
def c_nat_Shr:Cuts (TT s_nat_Shr.rs):=⟨⟨59,59,[]⟩,lookC [(0,⟨q0_nat_Shr,fun k x=>(g0_nat_Shr k x).map m_nat_Shr⟩)],lookC [],lookC []⟩
theorem o_nat_Shr:FOk Tryz.prog 249 s_nat_Shr :=
 fn_of (Bt:=blook [(12,[0,0,0,6,14,0,62,0,128,0,512,1920,4094,8190,16383,32767])]) (l:= [(187, .pu s_nat_Trim)]) (C:=c_nat_Shr) (by kernel_rfl) tab_ok ⟨o_nat_Trim,trivial⟩ (fn:=Tryz.f249) (by kernel_rfl) rfl (by kernel_rfl) (by decide) (by kernel_rfl) (F:=fun k x=>nat_Shr.f k x.1 x.2.1) (m:=m_nat_Shr) (fun k x=>rfl)
  (by
   refine And.intro ?_ ?_
   ·refine ob_loop (sl:=q0_nat_Shr) (F:=g0_nat_Shr) (fun ⟨⟨(x0:List Int),_⟩,⟨(x6:Int),_⟩,⟨(x7:List Int),_⟩,⟨(x8:Int),_⟩,_⟩=>by show (if 0≤x6∧x6<64 then nat_Shr.l0 0 x0 x6 x7 x8 else none)=none;split<;>rfl) fun k ⟨⟨(x0:List Int),_⟩,⟨(x6:Int),_⟩,⟨(x7:List Int),_⟩,⟨(x8:Int),_⟩,_⟩=> ?_
    show LeT m_nat_Shr (if 0≤x6∧x6<64 then nat_Shr.l0 (k+1) x0 x6 x7 x8 else none) _
    rw [nat_Shr.l0];exact go
   exact trivial)
  (fun k ⟨(a0:List Int),(a1:Int),_⟩=>by show LeT m_nat_Shr (nat_Shr.f k a0 a1) _;unfold nat_Shr.f;exact go)
end
section
attribute [local irreducible] nat_Bits.f nat_Trim.f nat_Shl.f quot_guess.f quot_take.f quot_back.f nat_Shr.f
def s_quot_long:FSpec:=⟨[(.row 73 (.int .u64)),(.row 73 (.int .u64))],[(.row 73 (.int .u64)),(.row 73 (.int .u64))],fun k x=>(quot_long.f k x.1 x.2.1).map fun r=>(r.1,r.2,())⟩
def m_quot_long (r:List Int × List Int):TT s_quot_long.rs:=(r.1,r.2,())
@[reducible] def q0_quot_long:List Slot:= [.tmp 0 [.ty (.row 73 (.int .u64))], .tmp 6 [.ty (.int .i64)], .tmp 7 [.ty (.row 73 (.int .u64))], .tmp 8 [.own .mine 8 73 (.int .u64)]]
def g0_quot_long (k:Nat) (x:TS q0_quot_long):Option (List Int × List Int):=quot_long.l0 k x.1.1 x.2.1.1 x.2.2.1.1 x.2.2.2.1.1
@[reducible] def q1_quot_long:List Slot:= [.tmp 6 [.ty (.int .i64)], .tmp 7 [.ty (.row 73 (.int .u64))], .tmp 8 [.own .mine 8 73 (.int .u64)], .tmp 9 [.ty (.int .i64)], .tmp 10 [.own .mine 10 73 (.int .u64)], .tmp 11 [.ty (.int .i64)]]
def g1_quot_long (k:Nat) (x:TS q1_quot_long):Option (List Int × List Int):=quot_long.l1 k x.1.1 x.2.1.1 x.2.2.1.1 x.2.2.2.1.1 x.2.2.2.2.1.1 x.2.2.2.2.2.1.1
def c_quot_long:Cuts (TT s_quot_long.rs):=⟨⟨83,83,[]⟩,lookC [(0,⟨q0_quot_long,fun k x=>(g0_quot_long k x).map m_quot_long⟩),(1,⟨q1_quot_long,fun k x=>(g1_quot_long k x).map m_quot_long⟩)],lookC [],lookC []⟩
theorem o_quot_long:FOk Tryz.prog 202 s_quot_long :=
 fn_of (Bt:=blook [(11,[0,0,0,6,0,0,32,112,240,0,0,1024,3584,7680,16383,32767])]) (l:= [(134, .pu s_nat_Bits),(187, .pu s_nat_Trim),(210, .nw n_nat_Shl),(246, .pu s_quot_guess),(247, .io s_quot_take [(67,83)]),(248, .io s_quot_back [(73,83)]),(249, .pu s_nat_Shr)]) (C:=c_quot_long) (by kernel_rfl) tab_ok ⟨o_nat_Bits,o_nat_Trim,on_nat_Shl,o_quot_guess,o_quot_take,o_quot_back,o_nat_Shr,trivial⟩ (fn:=Tryz.f202) (by kernel_rfl) rfl (by kernel_rfl) (by decide) (by kernel_rfl) (F:=fun k x=>quot_long.f k x.1 x.2.1) (m:=m_quot_long) (fun k x=>rfl)
  (by
   refine And.intro ?_ ?_
   ·refine ob_loop (sl:=q0_quot_long) (F:=g0_quot_long) (fun x=>rfl) fun k ⟨⟨(x0:List Int),_⟩,⟨(x6:Int),_⟩,⟨(x7:List Int),_⟩,⟨(x8:List Int),_⟩,_⟩=> ?_
    show LeT m_quot_long (quot_long.l0 (k+1) x0 x6 x7 x8) _
    rw [quot_long.l0];exact go
   refine And.intro ?_ ?_
   ·refine ob_loop (sl:=q1_quot_long) (F:=g1_quot_long) (fun x=>rfl) fun k ⟨⟨(x6:Int),_⟩,⟨(x7:List Int),_⟩,⟨(x8:List Int),_⟩,⟨(x9:Int),_⟩,⟨(x10:List Int),_⟩,⟨(x11:Int),_⟩,_⟩=> ?_
    show LeT m_quot_long (quot_long.l1 (k+1) x6 x7 x8 x9 x10 x11) _
    rw [quot_long.l1];exact go
   exact trivial)
  (fun k ⟨(a0:List Int),(a1:List Int),_⟩=>by show LeT m_quot_long (quot_long.f k a0 a1) _;unfold quot_long.f;exact go)
end
section
attribute [local irreducible] nat_Of.f nat_Cmp.f nat_Trim.f quot_Word.f quot_long.f
def s_quot_Div:FSpec:=⟨[(.row 73 (.int .u64)),(.row 73 (.int .u64))],[(.row 73 (.int .u64)),(.row 73 (.int .u64)), .bool],fun k x=>(quot_Div.f k x.1 x.2.1).map fun r=>(r.1,r.2.1,r.2.2,())⟩
def m_quot_Div (r:List Int × List Int × Bool):TT s_quot_Div.rs:=(r.1,r.2.1,r.2.2,())
theorem o_quot_Div:FOk Tryz.prog 138 s_quot_Div :=
 fn_of (Bt:=blook []) (l:= [(117, .pu s_nat_Of),(131, .pu s_nat_Cmp),(187, .pu s_nat_Trim),(200, .pu s_quot_Word),(202, .pu s_quot_long)]) (C:=noCuts) (by kernel_rfl) tab_ok ⟨o_nat_Of,o_nat_Cmp,o_nat_Trim,o_quot_Word,o_quot_long,trivial⟩ (fn:=Tryz.f138) (by kernel_rfl) rfl (by kernel_rfl) (by decide) (by kernel_rfl) (F:=fun k x=>quot_Div.f k x.1 x.2.1) (m:=m_quot_Div) (fun k x=>rfl)
  (by exact trivial)
  (fun k ⟨(a0:List Int),(a1:List Int),_⟩=>by show LeT m_quot_Div (quot_Div.f k a0 a1) _;unfold quot_Div.f;exact go)
end
section
attribute [local irreducible] nat_size.f
def s_nat_Word:FSpec:=⟨[(.row 73 (.int .u64))],[.int .u64, .bool],fun k x=>(nat_Word.f k x.1).map fun r=>(r.1,r.2,())⟩
def m_nat_Word (r:Int × Bool):TT s_nat_Word.rs:=(r.1,r.2,())
theorem o_nat_Word:FOk Tryz.prog 199 s_nat_Word :=
 fn_of (Bt:=blook []) (l:= [(192, .pu s_nat_size)]) (C:=noCuts) (by kernel_rfl) tab_ok ⟨o_nat_size,trivial⟩ (fn:=Tryz.f199) (by kernel_rfl) rfl (by kernel_rfl) (by decide) (by kernel_rfl) (F:=fun k x=>nat_Word.f k x.1) (m:=m_nat_Word) (fun k x=>rfl)
  (by exact trivial)
  (fun k ⟨(a0:List Int),_⟩=>by show LeT m_nat_Word (nat_Word.f k a0) _;unfold nat_Word.f;exact go)
end
section
def s_gcd_words:FSpec:=⟨[.int .u64, .int .u64],[.int .u64],fun k x=>(gcd_words.f k x.1 x.2.1).map fun r=>(r,())⟩
def m_gcd_words (r:Int):TT s_gcd_words.rs:=(r,())
@[reducible] def q0_gcd_words:List Slot:= [.tmp 0 [.ty (.int .u64)], .tmp 1 [.ty (.int .u64)]]
def g0_gcd_words (k:Nat) (x:TS q0_gcd_words):Option (Int):=gcd_words.l0 k x.1.1 x.2.1.1
def c_gcd_words:Cuts (TT s_gcd_words.rs):=⟨⟨12,12,[]⟩,lookC [(0,⟨q0_gcd_words,fun k x=>(g0_gcd_words k x).map m_gcd_words⟩)],lookC [],lookC []⟩
theorem o_gcd_words:FOk Tryz.prog 201 s_gcd_words :=
 fn_of (Bt:=blook [(2,[0,0,0,6,3,31])]) (l:= []) (C:=c_gcd_words) (by kernel_rfl) tab_ok trivial (fn:=Tryz.f201) (by kernel_rfl) rfl (by kernel_rfl) (by decide) (by kernel_rfl) (F:=fun k x=>gcd_words.f k x.1 x.2.1) (m:=m_gcd_words) (fun k x=>rfl)
  (by
   refine And.intro ?_ ?_
   ·refine ob_loop (sl:=q0_gcd_words) (F:=g0_gcd_words) (fun x=>rfl) fun k ⟨⟨(x0:Int),_⟩,⟨(x1:Int),_⟩,_⟩=> ?_
    show LeT m_gcd_words (gcd_words.l0 (k+1) x0 x1) _
    rw [gcd_words.l0];exact go
   exact trivial)
  (fun k ⟨(a0:Int),(a1:Int),_⟩=>by show LeT m_gcd_words (gcd_words.f k a0 a1) _;unfold gcd_words.f;exact go)
end
section
attribute [local irreducible] nat_Of.f quot_Div.f nat_Trim.f nat_Word.f quot_Word.f gcd_words.f
def s_gcd_Gcd:FSpec:=⟨[(.row 73 (.int .u64)),(.row 73 (.int .u64))],[(.row 73 (.int .u64))],fun k x=>(gcd_Gcd.f k x.1 x.2.1).map fun r=>(r,())⟩
def m_gcd_Gcd (r:List Int):TT s_gcd_Gcd.rs:=(r,())
@[reducible] def q0_gcd_Gcd:List Slot:= [.tmp 0 [.ty (.row 73 (.int .u64))], .tmp 1 [.ty (.row 73 (.int .u64))]]
def g0_gcd_Gcd (k:Nat) (x:TS q0_gcd_Gcd):Option (List Int):=gcd_Gcd.l0 k x.1.1 x.2.1.1
def c_gcd_Gcd:Cuts (TT s_gcd_Gcd.rs):=⟨⟨48,48,[]⟩,lookC [(0,⟨q0_gcd_Gcd,fun k x=>(g0_gcd_Gcd k x).map m_gcd_Gcd⟩)],lookC [],lookC []⟩
theorem o_gcd_Gcd:FOk Tryz.prog 137 s_gcd_Gcd :=
 fn_of (Bt:=blook []) (l:= [(117, .pu s_nat_Of),(138, .pu s_quot_Div),(187, .pu s_nat_Trim),(199, .pu s_nat_Word),(200, .pu s_quot_Word),(201, .pu s_gcd_words)]) (C:=c_gcd_Gcd) (by kernel_rfl) tab_ok ⟨o_nat_Of,o_quot_Div,o_nat_Trim,o_nat_Word,o_quot_Word,o_gcd_words,trivial⟩ (fn:=Tryz.f137) (by kernel_rfl) rfl (by kernel_rfl) (by decide) (by kernel_rfl) (F:=fun k x=>gcd_Gcd.f k x.1 x.2.1) (m:=m_gcd_Gcd) (fun k x=>rfl)
  (by
   refine And.intro ?_ ?_
   ·refine ob_loop (sl:=q0_gcd_Gcd) (F:=g0_gcd_Gcd) (fun x=>rfl) fun k ⟨⟨(x0:List Int),_⟩,⟨(x1:List Int),_⟩,_⟩=> ?_
    show LeT m_gcd_Gcd (gcd_Gcd.l0 (k+1) x0 x1) _
    rw [gcd_Gcd.l0];exact go
   exact trivial)
  (fun k ⟨(a0:List Int),(a1:List Int),_⟩=>by show LeT m_gcd_Gcd (gcd_Gcd.f k a0 a1) _;unfold gcd_Gcd.f;exact go)
end
section
attribute [local irreducible] nat_Of.f nat_Cmp.f gcd_Gcd.f
def s_gcd_Coprime:FSpec:=⟨[(.row 73 (.int .u64)),(.row 73 (.int .u64))],[.bool],fun k x=>(gcd_Coprime.f k x.1 x.2.1).map fun r=>(r,())⟩
def m_gcd_Coprime (r:Bool):TT s_gcd_Coprime.rs:=(r,())
theorem o_gcd_Coprime:FOk Tryz.prog 111 s_gcd_Coprime :=
 fn_of (Bt:=blook []) (l:= [(117, .pu s_nat_Of),(131, .pu s_nat_Cmp),(137, .pu s_gcd_Gcd)]) (C:=noCuts) (by kernel_rfl) tab_ok ⟨o_nat_Of,o_nat_Cmp,o_gcd_Gcd,trivial⟩ (fn:=Tryz.f111) (by kernel_rfl) rfl (by kernel_rfl) (by decide) (by kernel_rfl) (F:=fun k x=>gcd_Coprime.f k x.1 x.2.1) (m:=m_gcd_Coprime) (fun k x=>rfl)
  (by exact trivial)
  (fun k ⟨(a0:List Int),(a1:List Int),_⟩=>by show LeT m_gcd_Coprime (gcd_Coprime.f k a0 a1) _;unfold gcd_Coprime.f;exact go)
end
section
attribute [local irreducible] nat_Right.f gcd_Coprime.f
def s_rat_Right:FSpec:=⟨[(.cons .bool (.cons (.row 73 (.int .u64)) (.row 73 (.int .u64))))],[.bool],fun k x=>(rat_Right.f k x.1.1 x.1.2.1 x.1.2.2).map fun r=>(r,())⟩
def m_rat_Right (r:Bool):TT s_rat_Right.rs:=(r,())
theorem o_rat_Right:FOk Tryz.prog 56 s_rat_Right :=
 fn_of (Bt:=blook []) (l:= [(110, .pu s_nat_Right),(111, .pu s_gcd_Coprime)]) (C:=noCuts) (by kernel_rfl) tab_ok ⟨o_nat_Right,o_gcd_Coprime,trivial⟩ (fn:=Tryz.f56) (by kernel_rfl) rfl (by kernel_rfl) (by decide) (by kernel_rfl) (F:=fun k x=>rat_Right.f k x.1.1 x.1.2.1 x.1.2.2) (m:=m_rat_Right) (fun k x=>rfl)
  (by exact trivial)
  (fun k ⟨(a0:Bool × List Int × List Int),_⟩=>by show LeT m_rat_Right (rat_Right.f k a0.1 a0.2.1 a0.2.2) _;unfold rat_Right.f;exact go)
end
section
def s_line_Arity:FSpec:=⟨[.int .i64],[.int .i64],fun k x=>(line_Arity.f k x.1).map fun r=>(r,())⟩
def m_line_Arity (r:Int):TT s_line_Arity.rs:=(r,())
@[reducible] def q0_line_Arity:List Slot:= []
def g0_line_Arity (k:Nat) (x:TS q0_line_Arity):Option (Int):=line_Arity.j4 k 
def c_line_Arity:Cuts (TT s_line_Arity.rs):=⟨⟨17,17,[]⟩,lookC [],lookC [(4,⟨q0_line_Arity,fun k x=>(g0_line_Arity k x).map m_line_Arity⟩)],lookC []⟩
theorem o_line_Arity:FOk Tryz.prog 94 s_line_Arity :=
 fn_of (Bt:=blook []) (l:= []) (C:=c_line_Arity) (by kernel_rfl) tab_ok trivial (fn:=Tryz.f94) (by kernel_rfl) rfl (by kernel_rfl) (by decide) (by kernel_rfl) (F:=fun k x=>line_Arity.f k x.1) (m:=m_line_Arity) (fun k x=>rfl)
  (by
   refine And.intro ?_ ?_
   ·refine ob_join1 (sl:=q0_line_Arity) (F:=g0_line_Arity) (fun x=>rfl) fun k _=> ?_
    show LeT m_line_Arity (line_Arity.j4 (k+1)) _
    rw [line_Arity.j4];exact go
   exact trivial)
  (fun k ⟨(a0:Int),_⟩=>by show LeT m_line_Arity (line_Arity.f k a0) _;unfold line_Arity.f;exact go)
end
section
def s_line_none:FSpec:=⟨[(.cons .bool (.cons (.row 73 (.int .u64)) (.row 73 (.int .u64))))],[.bool],fun _ x=>(line_none.f x.1.1 x.1.2.1 x.1.2.2).map fun r=>(r,())⟩
def m_line_none (r:Bool):TT s_line_none.rs:=(r,())
theorem o_line_none:FOk Tryz.prog 203 s_line_none :=
 fn_of (Bt:=blook []) (l:= []) (C:=noCuts) (by kernel_rfl) tab_ok trivial (fn:=Tryz.f203) (by kernel_rfl) rfl (by kernel_rfl) (by decide) (by kernel_rfl) (F:=fun k x=>line_none.f x.1.1 x.1.2.1 x.1.2.2) (m:=m_line_none) (fun k x=>rfl)
  (by exact trivial)
  (fun k ⟨(a0:Bool × List Int × List Int),_⟩=>by show LeT m_line_none (line_none.f a0.1 a0.2.1 a0.2.2) _;unfold line_none.f;exact go)
end
section
attribute [local irreducible] rat_Right.f line_Arity.f line_none.f
def s_line_fits:FSpec:=⟨[(.cons (.int .i64) (.cons (.int .i64) (.cons (.int .i64) (.cons .bool (.cons (.row 73 (.int .u64)) (.row 73 (.int .u64))))))), .int .i64],[.bool],fun k x=>(line_fits.f k x.1.1 x.1.2.1 x.1.2.2.1 x.1.2.2.2.1 x.1.2.2.2.2.1 x.1.2.2.2.2.2 x.2.1).map fun r=>(r,())⟩
def m_line_fits (r:Bool):TT s_line_fits.rs:=(r,())
theorem o_line_fits:FOk Tryz.prog 139 s_line_fits :=
 fn_of (Bt:=blook []) (l:= [(56, .pu s_rat_Right),(94, .pu s_line_Arity),(203, .pu s_line_none)]) (C:=noCuts) (by kernel_rfl) tab_ok ⟨o_rat_Right,o_line_Arity,o_line_none,trivial⟩ (fn:=Tryz.f139) (by kernel_rfl) rfl (by kernel_rfl) (by decide) (by kernel_rfl) (F:=fun k x=>line_fits.f k x.1.1 x.1.2.1 x.1.2.2.1 x.1.2.2.2.1 x.1.2.2.2.2.1 x.1.2.2.2.2.2 x.2.1) (m:=m_line_fits) (fun k x=>rfl)
  (by exact trivial)
  (fun k ⟨(a0:Int × Int × Int × Bool × (List Int) × List Int),(a1:Int),_⟩=>by show LeT m_line_fits (line_fits.f k a0.1 a0.2.1 a0.2.2.1 a0.2.2.2.1 a0.2.2.2.2.1 a0.2.2.2.2.2 a1) _;unfold line_fits.f;exact go)
end
section
attribute [local irreducible] line_fits.f
def s_line_Right:FSpec:=⟨[(.row 93 (.cons (.int .i64) (.cons (.int .i64) (.cons (.int .i64) (.cons .bool (.cons (.row 73 (.int .u64)) (.row 73 (.int .u64))))))))],[.bool],fun k x=>(line_Right.f k x.1).map fun r=>(r,())⟩
def m_line_Right (r:Bool):TT s_line_Right.rs:=(r,())
@[reducible] def q0_line_Right:List Slot:= [.tmp 8 [.ty (.row 93 (.cons (.int .i64) (.cons (.int .i64) (.cons (.int .i64) (.cons .bool (.cons (.row 73 (.int .u64)) (.row 73 (.int .u64))))))))], .tmp 9 [.ty (.int .i64)], .tmp 10 [.ty (.int .i64)]]
def g0_line_Right (k:Nat) (x:TS q0_line_Right):Option (Bool):=line_Right.l0 k x.1.1 x.2.1.1 x.2.2.1.1
def c_line_Right:Cuts (TT s_line_Right.rs):=⟨⟨20,20,[]⟩,lookC [(0,⟨q0_line_Right,fun k x=>(g0_line_Right k x).map m_line_Right⟩)],lookC [],lookC []⟩
theorem o_line_Right:FOk Tryz.prog 83 s_line_Right :=
 fn_of (Bt:=blook []) (l:= [(139, .pu s_line_fits)]) (C:=c_line_Right) (by kernel_rfl) tab_ok ⟨o_line_fits,trivial⟩ (fn:=Tryz.f83) (by kernel_rfl) rfl (by kernel_rfl) (by decide) (by kernel_rfl) (F:=fun k x=>line_Right.f k x.1) (m:=m_line_Right) (fun k x=>rfl)
  (by
   refine And.intro ?_ ?_
   ·refine ob_loop (sl:=q0_line_Right) (F:=g0_line_Right) (fun x=>rfl) fun k ⟨⟨(x8:List (Int × Int × Int × Bool × (List Int) × List Int)),_⟩,⟨(x9:Int),_⟩,⟨(x10:Int),_⟩,_⟩=> ?_
    show LeT m_line_Right (line_Right.l0 (k+1) x8 x9 x10) _
    rw [line_Right.l0];exact go
   exact trivial)
  (fun k ⟨(a0:List (Int × Int × Int × Bool × (List Int) × List Int)),_⟩=>by show LeT m_line_Right (line_Right.f k a0) _;unfold line_Right.f;exact go)
end
section
attribute [local irreducible] rat_Right.f
def s_evals_right:FSpec:=⟨[(.row 45 (.cons .bool (.cons (.row 73 (.int .u64)) (.row 73 (.int .u64)))))],[.bool],fun k x=>(evals_right.f k x.1).map fun r=>(r,())⟩
def m_evals_right (r:Bool):TT s_evals_right.rs:=(r,())
@[reducible] def q0_evals_right:List Slot:= [.tmp 5 [.ty (.row 45 (.cons .bool (.cons (.row 73 (.int .u64)) (.row 73 (.int .u64)))))], .tmp 6 [.ty (.int .i64)], .tmp 7 [.ty (.int .i64)]]
def g0_evals_right (k:Nat) (x:TS q0_evals_right):Option (Bool):=evals_right.l0 k x.1.1 x.2.1.1 x.2.2.1.1
def c_evals_right:Cuts (TT s_evals_right.rs):=⟨⟨15,15,[]⟩,lookC [(0,⟨q0_evals_right,fun k x=>(g0_evals_right k x).map m_evals_right⟩)],lookC [],lookC []⟩
theorem o_evals_right:FOk Tryz.prog 84 s_evals_right :=
 fn_of (Bt:=blook []) (l:= [(56, .pu s_rat_Right)]) (C:=c_evals_right) (by kernel_rfl) tab_ok ⟨o_rat_Right,trivial⟩ (fn:=Tryz.f84) (by kernel_rfl) rfl (by kernel_rfl) (by decide) (by kernel_rfl) (F:=fun k x=>evals_right.f k x.1) (m:=m_evals_right) (fun k x=>rfl)
  (by
   refine And.intro ?_ ?_
   ·refine ob_loop (sl:=q0_evals_right) (F:=g0_evals_right) (fun x=>rfl) fun k ⟨⟨(x5:List (Bool × (List Int) × List Int)),_⟩,⟨(x6:Int),_⟩,⟨(x7:Int),_⟩,_⟩=> ?_
    show LeT m_evals_right (evals_right.l0 (k+1) x5 x6 x7) _
    rw [evals_right.l0];exact go
   exact trivial)
  (fun k ⟨(a0:List (Bool × (List Int) × List Int)),_⟩=>by show LeT m_evals_right (evals_right.f k a0) _;unfold evals_right.f;exact go)
end
section
attribute [local irreducible] nat_Right.f nat_Cmp.f
def s_rat_same:FSpec:=⟨[(.row 73 (.int .u64)),(.row 73 (.int .u64))],[.bool],fun k x=>(rat_same.f k x.1 x.2.1).map fun r=>(r,())⟩
def m_rat_same (r:Bool):TT s_rat_same.rs:=(r,())
theorem o_rat_same:FOk Tryz.prog 77 s_rat_same :=
 fn_of (Bt:=blook []) (l:= [(110, .pu s_nat_Right),(131, .pu s_nat_Cmp)]) (C:=noCuts) (by kernel_rfl) tab_ok ⟨o_nat_Right,o_nat_Cmp,trivial⟩ (fn:=Tryz.f77) (by kernel_rfl) rfl (by kernel_rfl) (by decide) (by kernel_rfl) (F:=fun k x=>rat_same.f k x.1 x.2.1) (m:=m_rat_same) (fun k x=>rfl)
  (by exact trivial)
  (fun k ⟨(a0:List Int),(a1:List Int),_⟩=>by show LeT m_rat_same (rat_same.f k a0 a1) _;unfold rat_same.f;exact go)
end
section
attribute [local irreducible] nat_Trim.f limb_Add.f
def s_nat_Add:FSpec:=⟨[(.row 73 (.int .u64)),(.row 73 (.int .u64))],[(.row 73 (.int .u64))],fun k x=>(nat_Add.f k x.1 x.2.1).map fun r=>(r,())⟩
def m_nat_Add (r:List Int):TT s_nat_Add.rs:=(r,())
@[reducible] def q0_nat_Add:List Slot:= [.tmp 1 [.ty (.row 73 (.int .u64))], .tmp 5 [.own .mine 5 73 (.int .u64)], .tmp 6 [.ty (.int .u64)], .tmp 21 [.ty (.row 73 (.int .u64))], .tmp 22 [.ty (.int .i64)], .tmp 23 [.ty (.int .i64)]]
def g0_nat_Add (k:Nat) (x:TS q0_nat_Add):Option (List Int):=nat_Add.l0 k x.1.1 x.2.1.1 x.2.2.1.1 x.2.2.2.1.1 x.2.2.2.2.1.1 x.2.2.2.2.2.1.1
def c_nat_Add:Cuts (TT s_nat_Add.rs):=⟨⟨53,53,[]⟩,lookC [(0,⟨q0_nat_Add,fun k x=>(g0_nat_Add k x).map m_nat_Add⟩)],lookC [],lookC []⟩
theorem e_nat_Add_l1:nat_Add.l1=nat_Add.l0:=by
 funext k
 induction k with
 | zero=>rfl
 | succ k ih=>funext x0 x1 x2 x3 x4 x5;simp only [nat_Add.l1,nat_Add.l0,ih]
theorem o_nat_Add:FOk Tryz.prog 132 s_nat_Add :=
 fn_of (Bt:=blook []) (l:= [(187, .pu s_nat_Trim),(193, .pu s_limb_Add)]) (C:=c_nat_Add) (by kernel_rfl) tab_ok ⟨o_nat_Trim,o_limb_Add,trivial⟩ (fn:=Tryz.f132) (by kernel_rfl) rfl (by kernel_rfl) (by decide) (by kernel_rfl) (F:=fun k x=>nat_Add.f k x.1 x.2.1) (m:=m_nat_Add) (fun k x=>rfl)
  (by
   refine And.intro ?_ ?_
   ·refine ob_loop (sl:=q0_nat_Add) (F:=g0_nat_Add) (fun x=>rfl) fun k ⟨⟨(x1:List Int),_⟩,⟨(x5:List Int),_⟩,⟨(x6:Int),_⟩,⟨(x21:List Int),_⟩,⟨(x22:Int),_⟩,⟨(x23:Int),_⟩,_⟩=> ?_
    show LeT m_nat_Add (nat_Add.l0 (k+1) x1 x5 x6 x21 x22 x23) _
    rw [nat_Add.l0];(try simp only [e_nat_Add_l1]);exact go
   exact trivial)
  (fun k ⟨(a0:List Int),(a1:List Int),_⟩=>by show LeT m_nat_Add (nat_Add.f k a0 a1) _;unfold nat_Add.f;(try simp only [e_nat_Add_l1]);exact go)
end
section
attribute [local irreducible] nat_Cmp.f nat_Trim.f limb_Sub.f
def s_nat_Sub:FSpec:=⟨[(.row 73 (.int .u64)),(.row 73 (.int .u64))],[(.row 73 (.int .u64)), .bool],fun k x=>(nat_Sub.f k x.1 x.2.1).map fun r=>(r.1,r.2,())⟩
def m_nat_Sub (r:List Int × Bool):TT s_nat_Sub.rs:=(r.1,r.2,())
@[reducible] def q0_nat_Sub:List Slot:= [.tmp 1 [.ty (.row 73 (.int .u64))], .tmp 6 [.own .mine 6 73 (.int .u64)], .tmp 7 [.ty (.int .u64)], .tmp 18 [.ty (.row 73 (.int .u64))], .tmp 19 [.ty (.int .i64)], .tmp 20 [.ty (.int .i64)]]
def g0_nat_Sub (k:Nat) (x:TS q0_nat_Sub):Option (List Int × Bool):=nat_Sub.l0 k x.1.1 x.2.1.1 x.2.2.1.1 x.2.2.2.1.1 x.2.2.2.2.1.1 x.2.2.2.2.2.1.1
def c_nat_Sub:Cuts (TT s_nat_Sub.rs):=⟨⟨47,47,[]⟩,lookC [(0,⟨q0_nat_Sub,fun k x=>(g0_nat_Sub k x).map m_nat_Sub⟩)],lookC [],lookC []⟩
theorem o_nat_Sub:FOk Tryz.prog 133 s_nat_Sub :=
 fn_of (Bt:=blook []) (l:= [(131, .pu s_nat_Cmp),(187, .pu s_nat_Trim),(194, .pu s_limb_Sub)]) (C:=c_nat_Sub) (by kernel_rfl) tab_ok ⟨o_nat_Cmp,o_nat_Trim,o_limb_Sub,trivial⟩ (fn:=Tryz.f133) (by kernel_rfl) rfl (by kernel_rfl) (by decide) (by kernel_rfl) (F:=fun k x=>nat_Sub.f k x.1 x.2.1) (m:=m_nat_Sub) (fun k x=>rfl)
  (by
   refine And.intro ?_ ?_
   ·refine ob_loop (sl:=q0_nat_Sub) (F:=g0_nat_Sub) (fun x=>rfl) fun k ⟨⟨(x1:List Int),_⟩,⟨(x6:List Int),_⟩,⟨(x7:Int),_⟩,⟨(x18:List Int),_⟩,⟨(x19:Int),_⟩,⟨(x20:Int),_⟩,_⟩=> ?_
    show LeT m_nat_Sub (nat_Sub.l0 (k+1) x1 x6 x7 x18 x19 x20) _
    rw [nat_Sub.l0];exact go
   exact trivial)
  (fun k ⟨(a0:List Int),(a1:List Int),_⟩=>by show LeT m_nat_Sub (nat_Sub.f k a0 a1) _;unfold nat_Sub.f;exact go)
end
section
attribute [local irreducible] nat_Add.f nat_Sub.f
def s_rat_sum:FSpec:=⟨[.bool,(.row 73 (.int .u64)), .bool,(.row 73 (.int .u64))],[.bool,(.row 73 (.int .u64))],fun k x=>(rat_sum.f k x.1 x.2.1 x.2.2.1 x.2.2.2.1).map fun r=>(r.1,r.2,())⟩
def m_rat_sum (r:Bool × List Int):TT s_rat_sum.rs:=(r.1,r.2,())
theorem o_rat_sum:FOk Tryz.prog 78 s_rat_sum :=
 fn_of (Bt:=blook []) (l:= [(132, .pu s_nat_Add),(133, .pu s_nat_Sub)]) (C:=noCuts) (by kernel_rfl) tab_ok ⟨o_nat_Add,o_nat_Sub,trivial⟩ (fn:=Tryz.f78) (by kernel_rfl) rfl (by kernel_rfl) (by decide) (by kernel_rfl) (F:=fun k x=>rat_sum.f k x.1 x.2.1 x.2.2.1 x.2.2.2.1) (m:=m_rat_sum) (fun k x=>rfl)
  (by exact trivial)
  (fun k ⟨(a0:Bool),(a1:List Int),(a2:Bool),(a3:List Int),_⟩=>by show LeT m_rat_sum (rat_sum.f k a0 a1 a2 a3) _;unfold rat_sum.f;exact go)
end
section
attribute [local irreducible] gcd_Gcd.f quot_Div.f
def s_gcd_Reduce:FSpec:=⟨[(.row 73 (.int .u64)),(.row 73 (.int .u64))],[(.row 73 (.int .u64)),(.row 73 (.int .u64))],fun k x=>(gcd_Reduce.f k x.1 x.2.1).map fun r=>(r.1,r.2,())⟩
def m_gcd_Reduce (r:List Int × List Int):TT s_gcd_Reduce.rs:=(r.1,r.2,())
theorem o_gcd_Reduce:FOk Tryz.prog 82 s_gcd_Reduce :=
 fn_of (Bt:=blook []) (l:= [(137, .pu s_gcd_Gcd),(138, .pu s_quot_Div)]) (C:=noCuts) (by kernel_rfl) tab_ok ⟨o_gcd_Gcd,o_quot_Div,trivial⟩ (fn:=Tryz.f82) (by kernel_rfl) rfl (by kernel_rfl) (by decide) (by kernel_rfl) (F:=fun k x=>gcd_Reduce.f k x.1 x.2.1) (m:=m_gcd_Reduce) (fun k x=>rfl)
  (by exact trivial)
  (fun k ⟨(a0:List Int),(a1:List Int),_⟩=>by show LeT m_gcd_Reduce (gcd_Reduce.f k a0 a1) _;unfold gcd_Reduce.f;exact go)
end
section
attribute [local irreducible] gcd_Reduce.f
def s_rat_lowest:FSpec:=⟨[.bool,(.row 73 (.int .u64)),(.row 73 (.int .u64))],[(.cons .bool (.cons (.row 73 (.int .u64)) (.row 73 (.int .u64))))],fun k x=>(rat_lowest.f k x.1 x.2.1 x.2.2.1).map fun r=>((r.1,r.2.1,r.2.2),())⟩
def m_rat_lowest (r:Bool × List Int × List Int):TT s_rat_lowest.rs:=((r.1,r.2.1,r.2.2),())
theorem o_rat_lowest:FOk Tryz.prog 79 s_rat_lowest :=
 fn_of (Bt:=blook []) (l:= [(82, .pu s_gcd_Reduce)]) (C:=noCuts) (by kernel_rfl) tab_ok ⟨o_gcd_Reduce,trivial⟩ (fn:=Tryz.f79) (by kernel_rfl) rfl (by kernel_rfl) (by decide) (by kernel_rfl) (F:=fun k x=>rat_lowest.f k x.1 x.2.1 x.2.2.1) (m:=m_rat_lowest) (fun k x=>rfl)
  (by exact trivial)
  (fun k ⟨(a0:Bool),(a1:List Int),(a2:List Int),_⟩=>by show LeT m_rat_lowest (rat_lowest.f k a0 a1 a2) _;unfold rat_lowest.f;exact go)
end
section
def s_rat_one:FSpec:=⟨[],[(.row 73 (.int .u64))],fun _ _=>(rat_one.f).map fun r=>(r,())⟩
def m_rat_one (r:List Int):TT s_rat_one.rs:=(r,())
theorem o_rat_one:FOk Tryz.prog 118 s_rat_one :=
 fn_of (Bt:=blook []) (l:= []) (C:=noCuts) (by kernel_rfl) tab_ok trivial (fn:=Tryz.f118) (by kernel_rfl) rfl (by kernel_rfl) (by decide) (by kernel_rfl) (F:=fun k x=>rat_one.f) (m:=m_rat_one) (fun k x=>rfl)
  (by exact trivial)
  (fun k x=>by show LeT m_rat_one (rat_one.f) _;unfold rat_one.f;exact go)
end
section
attribute [local irreducible] rat_one.f nat_Bits.f
def s_rat_safe:FSpec:=⟨[(.row 73 (.int .u64))],[(.row 73 (.int .u64))],fun k x=>(rat_safe.f k x.1).map fun r=>(r,())⟩
def m_rat_safe (r:List Int):TT s_rat_safe.rs:=(r,())
theorem o_rat_safe:FOk Tryz.prog 80 s_rat_safe :=
 fn_of (Bt:=blook []) (l:= [(118, .pu s_rat_one),(134, .pu s_nat_Bits)]) (C:=noCuts) (by kernel_rfl) tab_ok ⟨o_rat_one,o_nat_Bits,trivial⟩ (fn:=Tryz.f80) (by kernel_rfl) rfl (by kernel_rfl) (by decide) (by kernel_rfl) (F:=fun k x=>rat_safe.f k x.1) (m:=m_rat_safe) (fun k x=>rfl)
  (by exact trivial)
  (fun k ⟨(a0:List Int),_⟩=>by show LeT m_rat_safe (rat_safe.f k a0) _;unfold rat_safe.f;exact go)
end
section
attribute [local irreducible] nat_Trim.f
def s_prod_above:FSpec:=⟨[(.row 73 (.int .u64)), .int .i64],[(.row 73 (.int .u64))],fun k x=>(prod_above.f k x.1 x.2.1).map fun r=>(r,())⟩
def m_prod_above (r:List Int):TT s_prod_above.rs:=(r,())
theorem o_prod_above:FOk Tryz.prog 198 s_prod_above :=
 fn_of (Bt:=blook []) (l:= [(187, .pu s_nat_Trim)]) (C:=noCuts) (by kernel_rfl) tab_ok ⟨o_nat_Trim,trivial⟩ (fn:=Tryz.f198) (by kernel_rfl) rfl (by kernel_rfl) (by decide) (by kernel_rfl) (F:=fun k x=>prod_above.f k x.1 x.2.1) (m:=m_prod_above) (fun k x=>rfl)
  (by exact trivial)
  (fun k ⟨(a0:List Int),(a1:Int),_⟩=>by show LeT m_prod_above (prod_above.f k a0 a1) _;unfold prod_above.f;exact go)
end
section
attribute [local irreducible] nat_Trim.f
def s_prod_part:FSpec:=⟨[(.row 73 (.int .u64)), .int .i64, .int .i64],[(.row 73 (.int .u64))],fun k x=>(prod_part.f k x.1 x.2.1 x.2.2.1).map fun r=>(r,())⟩
def m_prod_part (r:List Int):TT s_prod_part.rs:=(r,())
theorem o_prod_part:FOk Tryz.prog 197 s_prod_part :=
 fn_of (Bt:=blook []) (l:= [(187, .pu s_nat_Trim)]) (C:=noCuts) (by kernel_rfl) tab_ok ⟨o_nat_Trim,trivial⟩ (fn:=Tryz.f197) (by kernel_rfl) rfl (by kernel_rfl) (by decide) (by kernel_rfl) (F:=fun k x=>prod_part.f k x.1 x.2.1 x.2.2.1) (m:=m_prod_part) (fun k x=>rfl)
  (by exact trivial)
  (fun k ⟨(a0:List Int),(a1:Int),(a2:Int),_⟩=>by show LeT m_prod_part (prod_part.f k a0 a1 a2) _;unfold prod_part.f;exact go)
end
section
attribute [local irreducible] nat_Trim.f limb_Add.f limb_Mul.f
def s_prod_rows:FSpec:=⟨[(.row 73 (.int .u64)),(.row 73 (.int .u64))],[(.row 73 (.int .u64))],fun k x=>(prod_rows.f k x.1 x.2.1).map fun r=>(r,())⟩
def m_prod_rows (r:List Int):TT s_prod_rows.rs:=(r,())
@[reducible] def q0_prod_rows:List Slot:= [.tmp 1 [.ty (.row 73 (.int .u64))], .tmp 5 [.own .mine 5 73 (.int .u64)], .tmp 21 [.ty (.row 73 (.int .u64))], .tmp 22 [.ty (.int .i64)], .tmp 23 [.ty (.int .i64)]]
def g0_prod_rows (k:Nat) (x:TS q0_prod_rows):Option (List Int):=prod_rows.l0 k x.1.1 x.2.1.1 x.2.2.1.1 x.2.2.2.1.1 x.2.2.2.2.1.1
@[reducible] def q1_prod_rows:List Slot:= [.tmp 1 [.ty (.row 73 (.int .u64))], .tmp 5 [.own .mine 5 73 (.int .u64)], .tmp 6 [.ty (.int .i64)], .tmp 7 [.ty (.int .u64)], .tmp 8 [.ty (.int .u64)], .tmp 21 [.ty (.row 73 (.int .u64))], .tmp 22 [.ty (.int .i64)], .tmp 23 [.ty (.int .i64)], .tmp 28 [.ty (.row 73 (.int .u64))], .tmp 29 [.ty (.int .i64)], .tmp 30 [.ty (.int .i64)]]
def g1_prod_rows (k:Nat) (x:TS q1_prod_rows):Option (List Int):=prod_rows.l1 k x.1.1 x.2.1.1 x.2.2.1.1 x.2.2.2.1.1 x.2.2.2.2.1.1 x.2.2.2.2.2.1.1 x.2.2.2.2.2.2.1.1 x.2.2.2.2.2.2.2.1.1 x.2.2.2.2.2.2.2.2.1.1 x.2.2.2.2.2.2.2.2.2.1.1 x.2.2.2.2.2.2.2.2.2.2.1.1
def c_prod_rows:Cuts (TT s_prod_rows.rs):=⟨⟨73,73,[]⟩,lookC [(0,⟨q0_prod_rows,fun k x=>(g0_prod_rows k x).map m_prod_rows⟩),(1,⟨q1_prod_rows,fun k x=>(g1_prod_rows k x).map m_prod_rows⟩)],lookC [],lookC []⟩
theorem o_prod_rows:FOk Tryz.prog 135 s_prod_rows :=
 fn_of (Bt:=blook []) (l:= [(187, .pu s_nat_Trim),(193, .pu s_limb_Add),(196, .pu s_limb_Mul)]) (C:=c_prod_rows) (by kernel_rfl) tab_ok ⟨o_nat_Trim,o_limb_Add,o_limb_Mul,trivial⟩ (fn:=Tryz.f135) (by kernel_rfl) rfl (by kernel_rfl) (by decide) (by kernel_rfl) (F:=fun k x=>prod_rows.f k x.1 x.2.1) (m:=m_prod_rows) (fun k x=>rfl)
  (by
   refine And.intro ?_ ?_
   ·refine ob_loop (sl:=q0_prod_rows) (F:=g0_prod_rows) (fun x=>rfl) fun k ⟨⟨(x1:List Int),_⟩,⟨(x5:List Int),_⟩,⟨(x21:List Int),_⟩,⟨(x22:Int),_⟩,⟨(x23:Int),_⟩,_⟩=> ?_
    show LeT m_prod_rows (prod_rows.l0 (k+1) x1 x5 x21 x22 x23) _
    rw [prod_rows.l0];exact go
   refine And.intro ?_ ?_
   ·refine ob_loop (sl:=q1_prod_rows) (F:=g1_prod_rows) (fun x=>rfl) fun k ⟨⟨(x1:List Int),_⟩,⟨(x5:List Int),_⟩,⟨(x6:Int),_⟩,⟨(x7:Int),_⟩,⟨(x8:Int),_⟩,⟨(x21:List Int),_⟩,⟨(x22:Int),_⟩,⟨(x23:Int),_⟩,⟨(x28:List Int),_⟩,⟨(x29:Int),_⟩,⟨(x30:Int),_⟩,_⟩=> ?_
    show LeT m_prod_rows (prod_rows.l1 (k+1) x1 x5 x6 x7 x8 x21 x22 x23 x28 x29 x30) _
    rw [prod_rows.l1];exact go
   exact trivial)
  (fun k ⟨(a0:List Int),(a1:List Int),_⟩=>by show LeT m_prod_rows (prod_rows.f k a0 a1) _;unfold prod_rows.f;exact go)
end
section
attribute [local irreducible] nat_Add.f nat_Sub.f prod_above.f prod_part.f prod_rows.f
def s_prod_Mul:FSpec:=⟨[(.row 73 (.int .u64)),(.row 73 (.int .u64))],[(.row 73 (.int .u64))],fun k x=>(prod_Mul.f k x.1 x.2.1).map fun r=>(r,())⟩
def m_prod_Mul (r:List Int):TT s_prod_Mul.rs:=(r,())
def s_prod_halves:FSpec:=⟨[(.row 73 (.int .u64)),(.row 73 (.int .u64))],[(.row 73 (.int .u64))],fun k x=>(prod_halves.f (prod_Mul.f k) k x.1 x.2.1).map m_prod_Mul⟩
theorem h_prod_halves (k:Nat) (ih : ∀ j,j≤k→FnOk Tryz.prog 81 s_prod_Mul j):FnOk Tryz.prog 136 s_prod_halves k :=
 fn_ofK (s:=s_prod_halves) (Bt:=blook []) (l:= [(81, .pu s_prod_Mul),(132, .pu s_nat_Add),(133, .pu s_nat_Sub),(197, .pu s_prod_part),(198, .pu s_prod_above)]) (C:=noCuts) (k:=k) (by kernel_rfl) tab_ok ⟨⟨by kernel_rfl,ih⟩,⟨o_nat_Add.1,fun j _=>o_nat_Add.2 j⟩,⟨o_nat_Sub.1,fun j _=>o_nat_Sub.2 j⟩,⟨o_prod_part.1,fun j _=>o_prod_part.2 j⟩,⟨o_prod_above.1,fun j _=>o_prod_above.2 j⟩,trivial⟩ (fn:=Tryz.f136) (by kernel_rfl) rfl (by kernel_rfl) (by decide) (F:=fun x=>prod_halves.f (prod_Mul.f k) k x.1 x.2.1) (m:=m_prod_Mul) (fun x=>rfl)
  (by exact trivial)
  (fun ⟨(a0:List Int),(a1:List Int),_⟩=>by show LeT m_prod_Mul (prod_halves.f (prod_Mul.f k) k a0 a1) _;unfold prod_halves.f;exact go)
theorem h_prod_Mul (k:Nat) (ih : ∀ j,j≤k→FnOk Tryz.prog 136 s_prod_halves j):FnOk Tryz.prog 81 s_prod_Mul (k+1) :=
 fn_ofK (s:=s_prod_Mul) (Bt:=blook []) (l:= [(135, .pu s_prod_rows),(136, .pu s_prod_halves)]) (C:=noCuts) (k:=k) (by kernel_rfl) tab_ok ⟨⟨o_prod_rows.1,fun j _=>o_prod_rows.2 j⟩,⟨by kernel_rfl,ih⟩,trivial⟩ (fn:=Tryz.f81) (by kernel_rfl) rfl (by kernel_rfl) (by decide) (F:=fun x=>prod_Mul.f (k+1) x.1 x.2.1) (m:=m_prod_Mul) (fun x=>rfl)
  (by exact trivial)
  (fun ⟨(a0:List Int),(a1:List Int),_⟩=>by show LeT m_prod_Mul (prod_Mul.f (k+1) a0 a1) _;rw [prod_Mul.f];exact go)
theorem b_prod_Mul : ∀ k j,j≤k→FnOk Tryz.prog 81 s_prod_Mul j
 | 0,j,hj=>by
  obtain rfl:j=0:=by omega
  intro x r h
  cases h
 | k+1,j,hj=>by
  rcases Nat.lt_or_ge j (k+1) with h | h
  ·exact b_prod_Mul k j (by omega)
  ·obtain rfl:j=k+1:=by omega
   exact h_prod_Mul k fun i hi=>h_prod_halves i fun q hq=>b_prod_Mul k q (by omega)
theorem o_prod_Mul:FOk Tryz.prog 81 s_prod_Mul:=⟨by kernel_rfl,fun k=>b_prod_Mul k k (Nat.le_refl k)⟩
end
section
attribute [local irreducible] rat_same.f rat_sum.f rat_lowest.f rat_safe.f
def s_rat_Add:FSpec:=⟨[(.cons .bool (.cons (.row 73 (.int .u64)) (.row 73 (.int .u64)))),(.cons .bool (.cons (.row 73 (.int .u64)) (.row 73 (.int .u64))))],[(.cons .bool (.cons (.row 73 (.int .u64)) (.row 73 (.int .u64))))],fun k x=>(rat_Add.f k x.1.1 x.1.2.1 x.1.2.2 x.2.1.1 x.2.1.2.1 x.2.1.2.2).map fun r=>((r.1,r.2.1,r.2.2),())⟩
def m_rat_Add (r:Bool × List Int × List Int):TT s_rat_Add.rs:=((r.1,r.2.1,r.2.2),())
theorem o_rat_Add:FOk Tryz.prog 26 s_rat_Add :=
 fn_of (Bt:=blook [(4,[0,1,0,4,0,16,60,0,128,0,512,0,2048,7804,16383,32767,65535,65535,131071,524287])]) (l:= [(77, .pu s_rat_same),(78, .pu s_rat_sum),(79, .pu s_rat_lowest),(80, .pu s_rat_safe),(81, .pu s_prod_Mul)]) (C:=noCuts) (by kernel_rfl) tab_ok ⟨o_rat_same,o_rat_sum,o_rat_lowest,o_rat_safe,o_prod_Mul,trivial⟩ (fn:=Tryz.f26) (by kernel_rfl) rfl (by kernel_rfl) (by decide) (by kernel_rfl) (F:=fun k x=>rat_Add.f k x.1.1 x.1.2.1 x.1.2.2 x.2.1.1 x.2.1.2.1 x.2.1.2.2) (m:=m_rat_Add) (fun k x=>rfl)
  (by exact trivial)
  (fun k ⟨(a0:Bool × List Int × List Int),(a1:Bool × List Int × List Int),_⟩=>by show LeT m_rat_Add (rat_Add.f k a0.1 a0.2.1 a0.2.2 a1.1 a1.2.1 a1.2.2) _;unfold rat_Add.f;exact go)
end
section
attribute [local irreducible] rat_lowest.f rat_safe.f gcd_Reduce.f
def s_rat_Mul:FSpec:=⟨[(.cons .bool (.cons (.row 73 (.int .u64)) (.row 73 (.int .u64)))),(.cons .bool (.cons (.row 73 (.int .u64)) (.row 73 (.int .u64))))],[(.cons .bool (.cons (.row 73 (.int .u64)) (.row 73 (.int .u64))))],fun k x=>(rat_Mul.f k x.1.1 x.1.2.1 x.1.2.2 x.2.1.1 x.2.1.2.1 x.2.1.2.2).map fun r=>((r.1,r.2.1,r.2.2),())⟩
def m_rat_Mul (r:Bool × List Int × List Int):TT s_rat_Mul.rs:=((r.1,r.2.1,r.2.2),())
theorem o_rat_Mul:FOk Tryz.prog 27 s_rat_Mul :=
 fn_of (Bt:=blook [(1,[0,1,0,4,12,31,63,127,127,255,1023]),(2,[0,1,0,4,12,31,63,127,127,255,1023]),(4,[0,1,0,4,15,0,0,0,192,511,1023])]) (l:= [(79, .pu s_rat_lowest),(80, .pu s_rat_safe),(81, .pu s_prod_Mul),(82, .pu s_gcd_Reduce)]) (C:=noCuts) (by kernel_rfl) tab_ok ⟨o_rat_lowest,o_rat_safe,o_prod_Mul,o_gcd_Reduce,trivial⟩ (fn:=Tryz.f27) (by kernel_rfl) rfl (by kernel_rfl) (by decide) (by kernel_rfl) (F:=fun k x=>rat_Mul.f k x.1.1 x.1.2.1 x.1.2.2 x.2.1.1 x.2.1.2.1 x.2.1.2.2) (m:=m_rat_Mul) (fun k x=>rfl)
  (by exact trivial)
  (fun k ⟨(a0:Bool × List Int × List Int),(a1:Bool × List Int × List Int),_⟩=>by show LeT m_rat_Mul (rat_Mul.f k a0.1 a0.2.1 a0.2.2 a1.1 a1.2.1 a1.2.2) _;unfold rat_Mul.f;exact go)
end
section
attribute [local irreducible] nat_Bits.f nat_Trim.f
def s_rat_Neg:FSpec:=⟨[(.cons .bool (.cons (.row 73 (.int .u64)) (.row 73 (.int .u64))))],[(.cons .bool (.cons (.row 73 (.int .u64)) (.row 73 (.int .u64))))],fun k x=>(rat_Neg.f k x.1.1 x.1.2.1 x.1.2.2).map fun r=>((r.1,r.2.1,r.2.2),())⟩
def m_rat_Neg (r:Bool × List Int × List Int):TT s_rat_Neg.rs:=((r.1,r.2.1,r.2.2),())
theorem o_rat_Neg:FOk Tryz.prog 112 s_rat_Neg :=
 fn_of (Bt:=blook [(1,[0,1,3,7,15,31,63,127,255,0,512,1663,0,4096,15999,32767,65535])]) (l:= [(134, .pu s_nat_Bits),(187, .pu s_nat_Trim)]) (C:=noCuts) (by kernel_rfl) tab_ok ⟨o_nat_Bits,o_nat_Trim,trivial⟩ (fn:=Tryz.f112) (by kernel_rfl) rfl (by kernel_rfl) (by decide) (by kernel_rfl) (F:=fun k x=>rat_Neg.f k x.1.1 x.1.2.1 x.1.2.2) (m:=m_rat_Neg) (fun k x=>rfl)
  (by exact trivial)
  (fun k ⟨(a0:Bool × List Int × List Int),_⟩=>by show LeT m_rat_Neg (rat_Neg.f k a0.1 a0.2.1 a0.2.2) _;unfold rat_Neg.f;exact go)
end
section
attribute [local irreducible] rat_Add.f rat_Neg.f
def s_rat_Sub:FSpec:=⟨[(.cons .bool (.cons (.row 73 (.int .u64)) (.row 73 (.int .u64)))),(.cons .bool (.cons (.row 73 (.int .u64)) (.row 73 (.int .u64))))],[(.cons .bool (.cons (.row 73 (.int .u64)) (.row 73 (.int .u64))))],fun k x=>(rat_Sub.f k x.1.1 x.1.2.1 x.1.2.2 x.2.1.1 x.2.1.2.1 x.2.1.2.2).map fun r=>((r.1,r.2.1,r.2.2),())⟩
def m_rat_Sub (r:Bool × List Int × List Int):TT s_rat_Sub.rs:=((r.1,r.2.1,r.2.2),())
theorem o_rat_Sub:FOk Tryz.prog 113 s_rat_Sub :=
 fn_of (Bt:=blook [(1,[0,0,2,7,15])]) (l:= [(26, .pu s_rat_Add),(112, .pu s_rat_Neg)]) (C:=noCuts) (by kernel_rfl) tab_ok ⟨o_rat_Add,o_rat_Neg,trivial⟩ (fn:=Tryz.f113) (by kernel_rfl) rfl (by kernel_rfl) (by decide) (by kernel_rfl) (F:=fun k x=>rat_Sub.f k x.1.1 x.1.2.1 x.1.2.2 x.2.1.1 x.2.1.2.1 x.2.1.2.2) (m:=m_rat_Sub) (fun k x=>rfl)
  (by exact trivial)
  (fun k ⟨(a0:Bool × List Int × List Int),(a1:Bool × List Int × List Int),_⟩=>by show LeT m_rat_Sub (rat_Sub.f k a0.1 a0.2.1 a0.2.2 a1.1 a1.2.1 a1.2.2) _;unfold rat_Sub.f;exact go)
end
section
attribute [local irreducible] nat_Bits.f nat_Trim.f
def s_rat_Inv:FSpec:=⟨[(.cons .bool (.cons (.row 73 (.int .u64)) (.row 73 (.int .u64))))],[(.cons .bool (.cons (.row 73 (.int .u64)) (.row 73 (.int .u64)))), .int .i64],fun k x=>(rat_Inv.f k x.1.1 x.1.2.1 x.1.2.2).map fun r=>((r.1,r.2.1,r.2.2.1),r.2.2.2,())⟩
def m_rat_Inv (r:Bool × List Int × List Int × Int):TT s_rat_Inv.rs:=((r.1,r.2.1,r.2.2.1),r.2.2.2,())
theorem o_rat_Inv:FOk Tryz.prog 204 s_rat_Inv :=
 fn_of (Bt:=blook [(3,[0,1,0,4,12,0,32,124,255,511,1023])]) (l:= [(134, .pu s_nat_Bits),(187, .pu s_nat_Trim)]) (C:=noCuts) (by kernel_rfl) tab_ok ⟨o_nat_Bits,o_nat_Trim,trivial⟩ (fn:=Tryz.f204) (by kernel_rfl) rfl (by kernel_rfl) (by decide) (by kernel_rfl) (F:=fun k x=>rat_Inv.f k x.1.1 x.1.2.1 x.1.2.2) (m:=m_rat_Inv) (fun k x=>rfl)
  (by exact trivial)
  (fun k ⟨(a0:Bool × List Int × List Int),_⟩=>by show LeT m_rat_Inv (rat_Inv.f k a0.1 a0.2.1 a0.2.2) _;unfold rat_Inv.f;exact go)
end
section
attribute [local irreducible] rat_Mul.f rat_Inv.f
def s_rat_Div:FSpec:=⟨[(.cons .bool (.cons (.row 73 (.int .u64)) (.row 73 (.int .u64)))),(.cons .bool (.cons (.row 73 (.int .u64)) (.row 73 (.int .u64))))],[(.cons .bool (.cons (.row 73 (.int .u64)) (.row 73 (.int .u64)))), .int .i64],fun k x=>(rat_Div.f k x.1.1 x.1.2.1 x.1.2.2 x.2.1.1 x.2.1.2.1 x.2.1.2.2).map fun r=>((r.1,r.2.1,r.2.2.1),r.2.2.2,())⟩
def m_rat_Div (r:Bool × List Int × List Int × Int):TT s_rat_Div.rs:=((r.1,r.2.1,r.2.2.1),r.2.2.2,())
theorem o_rat_Div:FOk Tryz.prog 140 s_rat_Div :=
 fn_of (Bt:=blook []) (l:= [(27, .pu s_rat_Mul),(204, .pu s_rat_Inv)]) (C:=noCuts) (by kernel_rfl) tab_ok ⟨o_rat_Mul,o_rat_Inv,trivial⟩ (fn:=Tryz.f140) (by kernel_rfl) rfl (by kernel_rfl) (by decide) (by kernel_rfl) (F:=fun k x=>rat_Div.f k x.1.1 x.1.2.1 x.1.2.2 x.2.1.1 x.2.1.2.1 x.2.1.2.2) (m:=m_rat_Div) (fun k x=>rfl)
  (by exact trivial)
  (fun k ⟨(a0:Bool × List Int × List Int),(a1:Bool × List Int × List Int),_⟩=>by show LeT m_rat_Div (rat_Div.f k a0.1 a0.2.1 a0.2.2 a1.1 a1.2.1 a1.2.2) _;unfold rat_Div.f;exact go)
end
section
def s_evals_exact_form:ISpec:=⟨[.st 124 [.row true 45 (.cons .bool (.cons (.row 73 (.int .u64)) (.row 73 (.int .u64)))), .ty (.row 45 (.cons .bool (.cons (.row 73 (.int .u64)) (.row 73 (.int .u64))))), .ty (.row 45 (.cons .bool (.cons (.row 73 (.int .u64)) (.row 73 (.int .u64))))), .ty (.int .i64)]],[(.cons .bool (.cons (.row 73 (.int .u64)) (.row 73 (.int .u64)))), .int .i64],fun k x=>(evals_exact_form.f k x.1.1 x.1.2.1 x.1.2.2.1 x.1.2.2.2.1).map fun r=>(((r.1,(r.2.1,r.2.2.1)),r.2.2.2.1,()),((r.2.2.2.2.1,r.2.2.2.2.2.1,r.2.2.2.2.2.2.1,r.2.2.2.2.2.2.2,()),()))⟩
def m_evals_exact_form (r:Bool × List Int × List Int × Int × List (Bool × (List Int) × List Int) × List (Bool × (List Int) × List Int) × List (Bool × (List Int) × List Int) × Int):TT s_evals_exact_form.rs × ET s_evals_exact_form.ps:=(((r.1,(r.2.1,r.2.2.1)),r.2.2.2.1,()),((r.2.2.2.2.1,r.2.2.2.2.2.1,r.2.2.2.2.2.2.1,r.2.2.2.2.2.2.2,()),()))
def c_evals_exact_form:Cuts (TT s_evals_exact_form.rs × ET s_evals_exact_form.ps):=⟨⟨33,35,[33,34]⟩,lookC [],lookC [],lookC []⟩
theorem o_evals_exact_form:FIk Tryz.prog 141 s_evals_exact_form :=
 fi_of (Bt:=blook [(1,[0,1,3,7,0,16,48,112,240,511]),(4,[0,1,3,7,0,16,48,112,240,511,1023,2047,4095])]) (l:= []) (C:=c_evals_exact_form) (by kernel_rfl) tab_ok trivial (fn:=Tryz.f141) (by kernel_rfl) rfl (by kernel_rfl) (by decide) (by kernel_rfl) (m:=35) (by decide) (by decide) (F:=fun k x=>evals_exact_form.f k x.1.1 x.1.2.1 x.1.2.2.1 x.1.2.2.2.1) (q:=m_evals_exact_form) (fun k x=>rfl)
  (by exact trivial)
  (fun k ⟨⟨s0_0,s0_1,s0_2,s0_3,_⟩,_⟩=>by show LeT m_evals_exact_form (evals_exact_form.f k s0_0 s0_1 s0_2 s0_3) _;unfold evals_exact_form.f;exact go)
end
section
attribute [local irreducible] rat_Add.f rat_Mul.f rat_Neg.f rat_Sub.f rat_Div.f evals_exact_form.f
def s_evals_exact_step:ISpec:=⟨[.st 124 [.row true 45 (.cons .bool (.cons (.row 73 (.int .u64)) (.row 73 (.int .u64)))), .ty (.row 45 (.cons .bool (.cons (.row 73 (.int .u64)) (.row 73 (.int .u64))))), .ty (.row 45 (.cons .bool (.cons (.row 73 (.int .u64)) (.row 73 (.int .u64))))), .ty (.int .i64)], .ty (.cons (.int .i64) (.cons (.int .i64) (.cons (.int .i64) (.cons .bool (.cons (.row 73 (.int .u64)) (.row 73 (.int .u64)))))))],[(.cons .bool (.cons (.row 73 (.int .u64)) (.row 73 (.int .u64)))), .int .i64],fun k x=>(evals_exact_step.f k x.1.1 x.1.2.1 x.1.2.2.1 x.1.2.2.2.1 x.2.1.1 x.2.1.2.1 x.2.1.2.2.1 x.2.1.2.2.2.1 x.2.1.2.2.2.2.1 x.2.1.2.2.2.2.2).map fun r=>(((r.1,(r.2.1,r.2.2.1)),r.2.2.2.1,()),((r.2.2.2.2.1,r.2.2.2.2.2.1,r.2.2.2.2.2.2.1,r.2.2.2.2.2.2.2,()),()))⟩
def m_evals_exact_step (r:Bool × List Int × List Int × Int × List (Bool × (List Int) × List Int) × List (Bool × (List Int) × List Int) × List (Bool × (List Int) × List Int) × Int):TT s_evals_exact_step.rs × ET s_evals_exact_step.ps:=(((r.1,(r.2.1,r.2.2.1)),r.2.2.2.1,()),((r.2.2.2.2.1,r.2.2.2.2.2.1,r.2.2.2.2.2.2.1,r.2.2.2.2.2.2.2,()),()))
def c_evals_exact_step:Cuts (TT s_evals_exact_step.rs × ET s_evals_exact_step.ps):=⟨⟨124,126,[124,125]⟩,lookC [],lookC [],lookC []⟩
theorem o_evals_exact_step:FIk Tryz.prog 85 s_evals_exact_step :=
 fi_of (Bt:=blook [(3,[0,1,0,4,12,28,60,127]),(5,[0,1,3,7,0,16,63,127,255,511]),(9,[0,1,3,7,0,16,63,127,255,511,1023]),(11,[0,1,3,7,0,16,63,127,0,256,768,1792,0,4096,16128,32512,65535,131071,262143]),(13,[0,1,3,7,0,16,63,127,0,256,768,1792,0,4096,16128,32512,65535,131071,262143]),(15,[0,1,3,7,0,16,63,127,0,256,768,1792,0,4096,16128,32512,65535,131071,262143]),(17,[0,1,3,7,0,16,63,127,0,256,768,1792,0,4096,16128,32512,65535,131071,131071,524287,1048575])]) (l:= [(26, .pu s_rat_Add),(27, .pu s_rat_Mul),(112, .pu s_rat_Neg),(113, .pu s_rat_Sub),(140, .pu s_rat_Div),(141, .io s_evals_exact_form [(121,126)])]) (C:=c_evals_exact_step) (by kernel_rfl) tab_ok ⟨o_rat_Add,o_rat_Mul,o_rat_Neg,o_rat_Sub,o_rat_Div,o_evals_exact_form,trivial⟩ (fn:=Tryz.f85) (by kernel_rfl) rfl (by kernel_rfl) (by decide) (by kernel_rfl) (m:=126) (by decide) (by decide) (F:=fun k x=>evals_exact_step.f k x.1.1 x.1.2.1 x.1.2.2.1 x.1.2.2.2.1 x.2.1.1 x.2.1.2.1 x.2.1.2.2.1 x.2.1.2.2.2.1 x.2.1.2.2.2.2.1 x.2.1.2.2.2.2.2) (q:=m_evals_exact_step) (fun k x=>rfl)
  (by exact trivial)
  (fun k ⟨⟨s0_0,s0_1,s0_2,s0_3,_⟩,(a1:Int × Int × Int × Bool × (List Int) × List Int),_⟩=>by show LeT m_evals_exact_step (evals_exact_step.f k s0_0 s0_1 s0_2 s0_3 a1.1 a1.2.1 a1.2.2.1 a1.2.2.2.1 a1.2.2.2.2.1 a1.2.2.2.2.2) _;unfold evals_exact_step.f;exact go)
end
section
attribute [local irreducible] nat_Bits.f
def s_power_Bits:FSpec:=⟨[(.cons .bool (.cons (.row 73 (.int .u64)) (.row 73 (.int .u64))))],[.int .i64],fun k x=>(power_Bits.f k x.1.1 x.1.2.1 x.1.2.2).map fun r=>(r,())⟩
def m_power_Bits (r:Int):TT s_power_Bits.rs:=(r,())
theorem o_power_Bits:FOk Tryz.prog 86 s_power_Bits :=
 fn_of (Bt:=blook [(1,[0,1,3,0,8,31,63,127])]) (l:= [(134, .pu s_nat_Bits)]) (C:=noCuts) (by kernel_rfl) tab_ok ⟨o_nat_Bits,trivial⟩ (fn:=Tryz.f86) (by kernel_rfl) rfl (by kernel_rfl) (by decide) (by kernel_rfl) (F:=fun k x=>power_Bits.f k x.1.1 x.1.2.1 x.1.2.2) (m:=m_power_Bits) (fun k x=>rfl)
  (by exact trivial)
  (fun k ⟨(a0:Bool × List Int × List Int),_⟩=>by show LeT m_power_Bits (power_Bits.f k a0.1 a0.2.1 a0.2.2) _;unfold power_Bits.f;exact go)
end
section
def s_evals_copied:FSpec:=⟨[(.cons .bool (.cons (.row 73 (.int .u64)) (.row 73 (.int .u64))))],[(.cons .bool (.cons (.row 73 (.int .u64)) (.row 73 (.int .u64))))],fun _ x=>(evals_copied.f x.1.1 x.1.2.1 x.1.2.2).map fun r=>((r.1,r.2.1,r.2.2),())⟩
def m_evals_copied (r:Bool × List Int × List Int):TT s_evals_copied.rs:=((r.1,r.2.1,r.2.2),())
theorem o_evals_copied:FOk Tryz.prog 87 s_evals_copied :=
 fn_of (Bt:=blook [(1,[0,1,0,0,8,28,0,0,128,508,1023,2047])]) (l:= []) (C:=noCuts) (by kernel_rfl) tab_ok trivial (fn:=Tryz.f87) (by kernel_rfl) rfl (by kernel_rfl) (by decide) (by kernel_rfl) (F:=fun k x=>evals_copied.f x.1.1 x.1.2.1 x.1.2.2) (m:=m_evals_copied) (fun k x=>rfl)
  (by exact trivial)
  (fun k ⟨(a0:Bool × List Int × List Int),_⟩=>by show LeT m_evals_copied (evals_copied.f a0.1 a0.2.1 a0.2.2) _;unfold evals_copied.f;exact go)
end
section
attribute [local irreducible] line_Right.f evals_right.f evals_exact_step.f power_Bits.f evals_copied.f
def s_evals_Exact:FSpec:=⟨[(.row 93 (.cons (.int .i64) (.cons (.int .i64) (.cons (.int .i64) (.cons .bool (.cons (.row 73 (.int .u64)) (.row 73 (.int .u64)))))))),(.row 45 (.cons .bool (.cons (.row 73 (.int .u64)) (.row 73 (.int .u64))))),(.row 45 (.cons .bool (.cons (.row 73 (.int .u64)) (.row 73 (.int .u64)))))],[(.row 45 (.cons .bool (.cons (.row 73 (.int .u64)) (.row 73 (.int .u64))))), .int .i64, .int .i64],fun k x=>(evals_Exact.f k x.1 x.2.1 x.2.2.1).map fun r=>(r.1,r.2.1,r.2.2,())⟩
def m_evals_Exact (r:List (Bool × List Int × List Int) × Int × Int):TT s_evals_Exact.rs:=(r.1,r.2.1,r.2.2,())
@[reducible] def q0_evals_Exact:List Slot:= [.tmp 9 [.ptr 30 0], .tmp 31 [.ty (.row 93 (.cons (.int .i64) (.cons (.int .i64) (.cons (.int .i64) (.cons .bool (.cons (.row 73 (.int .u64)) (.row 73 (.int .u64))))))))], .tmp 32 [.ty (.int .i64)], .tmp 33 [.ty (.int .i64)], .blk 30 .mine 124 [.own .mine 71 45 (.cons .bool (.cons (.row 73 (.int .u64)) (.row 73 (.int .u64)))), .ty (.row 45 (.cons .bool (.cons (.row 73 (.int .u64)) (.row 73 (.int .u64))))), .ty (.row 45 (.cons .bool (.cons (.row 73 (.int .u64)) (.row 73 (.int .u64))))), .ty (.int .i64)]]
def g0_evals_Exact (k:Nat) (x:TS q0_evals_Exact):Option (List (Bool × List Int × List Int) × Int × Int):=evals_Exact.l0 k x.2.1.1 x.2.2.1.1 x.2.2.2.1.1 x.2.2.2.2.1.1 x.2.2.2.2.1.2.1 x.2.2.2.2.1.2.2.1 x.2.2.2.2.1.2.2.2.1
@[reducible] def q1_evals_Exact:List Slot:= []
def g1_evals_Exact (k:Nat) (x:TS q1_evals_Exact):Option (List (Bool × List Int × List Int) × Int × Int):=evals_Exact.j2 k 
@[reducible] def q2_evals_Exact:List Slot:= [.tmp 9 [.ptr 30 0], .tmp 10 [.ty (.int .i64)], .tmp 12 [.ptr 12 0], .tmp 13 [.ty (.int .i64)], .tmp 31 [.ty (.row 93 (.cons (.int .i64) (.cons (.int .i64) (.cons (.int .i64) (.cons .bool (.cons (.row 73 (.int .u64)) (.row 73 (.int .u64))))))))], .tmp 32 [.ty (.int .i64)], .tmp 33 [.ty (.int .i64)], .blk 12 .mine 45 [.ty .bool, .ty (.row 73 (.int .u64)), .ty (.row 73 (.int .u64))], .blk 30 .mine 124 [.own .mine 71 45 (.cons .bool (.cons (.row 73 (.int .u64)) (.row 73 (.int .u64)))), .ty (.row 45 (.cons .bool (.cons (.row 73 (.int .u64)) (.row 73 (.int .u64))))), .ty (.row 45 (.cons .bool (.cons (.row 73 (.int .u64)) (.row 73 (.int .u64))))), .ty (.int .i64)]]
def g2_evals_Exact (k:Nat) (x:TS q2_evals_Exact):Option (List (Bool × List Int × List Int) × Int × Int):=evals_Exact.j10 k x.2.1.1 x.2.2.2.1.1 x.2.2.2.2.1.1 x.2.2.2.2.2.1.1 x.2.2.2.2.2.2.1.1 x.2.2.2.2.2.2.2.1.1 x.2.2.2.2.2.2.2.1.2.1 x.2.2.2.2.2.2.2.1.2.2.1 x.2.2.2.2.2.2.2.2.1.1 x.2.2.2.2.2.2.2.2.1.2.1 x.2.2.2.2.2.2.2.2.1.2.2.1 x.2.2.2.2.2.2.2.2.1.2.2.2.1
def c_evals_Exact:Cuts (TT s_evals_Exact.rs):=⟨⟨71,72,[]⟩,lookC [(0,⟨q0_evals_Exact,fun k x=>(g0_evals_Exact k x).map m_evals_Exact⟩)],lookC [(2,⟨q1_evals_Exact,fun k x=>(g1_evals_Exact k x).map m_evals_Exact⟩),(10,⟨q2_evals_Exact,fun k x=>(g2_evals_Exact k x).map m_evals_Exact⟩)],lookC []⟩
theorem o_evals_Exact:FOk Tryz.prog 30 s_evals_Exact :=
 fn_of (Bt:=blook [(12,[0,0,2,6,14,0,32,96,254,511,1023,2047])]) (l:= [(83, .pu s_line_Right),(84, .pu s_evals_right),(85, .io s_evals_exact_step [(41,71)]),(86, .pu s_power_Bits),(87, .pu s_evals_copied)]) (C:=c_evals_Exact) (by kernel_rfl) tab_ok ⟨o_line_Right,o_evals_right,o_evals_exact_step,o_power_Bits,o_evals_copied,trivial⟩ (fn:=Tryz.f30) (by kernel_rfl) rfl (by kernel_rfl) (by decide) (by kernel_rfl) (F:=fun k x=>evals_Exact.f k x.1 x.2.1 x.2.2.1) (m:=m_evals_Exact) (fun k x=>rfl)
  (by
   refine And.intro ?_ ?_
   ·refine ob_join1 (sl:=q1_evals_Exact) (F:=g1_evals_Exact) (fun x=>rfl) fun k _=> ?_
    show LeT m_evals_Exact (evals_Exact.j2 (k+1)) _
    rw [evals_Exact.j2];exact go
   refine And.intro ?_ ?_
   ·refine ob_loop (sl:=q0_evals_Exact) (F:=g0_evals_Exact) (fun x=>rfl) fun k ⟨_,⟨(x31:List (Int × Int × Int × Bool × (List Int) × List Int)),_⟩,⟨(x32:Int),_⟩,⟨(x33:Int),_⟩,⟨(v30_0:List (Bool × (List Int) × List Int)),(v30_1:List (Bool × (List Int) × List Int)),(v30_2:List (Bool × (List Int) × List Int)),(v30_3:Int),_⟩,_⟩=> ?_
    show LeT m_evals_Exact (evals_Exact.l0 (k+1) x31 x32 x33 v30_0 v30_1 v30_2 v30_3) _
    rw [evals_Exact.l0];exact go
   refine And.intro ?_ ?_
   ·refine ob_join1 (sl:=q2_evals_Exact) (F:=g2_evals_Exact) (fun x=>rfl) fun k ⟨_,⟨(x10:Int),_⟩,_,⟨(x13:Int),_⟩,⟨(x31:List (Int × Int × Int × Bool × (List Int) × List Int)),_⟩,⟨(x32:Int),_⟩,⟨(x33:Int),_⟩,⟨(v12_0:Bool),(v12_1:List Int),(v12_2:List Int),_⟩,⟨(v30_0:List (Bool × (List Int) × List Int)),(v30_1:List (Bool × (List Int) × List Int)),(v30_2:List (Bool × (List Int) × List Int)),(v30_3:Int),_⟩,_⟩=> ?_
    show LeT m_evals_Exact (evals_Exact.j10 (k+1) x10 x13 x31 x32 x33 v12_0 v12_1 v12_2 v30_0 v30_1 v30_2 v30_3) _
    rw [evals_Exact.j10];exact go
   exact trivial)
  (fun k ⟨(a0:List (Int × Int × Int × Bool × (List Int) × List Int)),(a1:List (Bool × (List Int) × List Int)),(a2:List (Bool × (List Int) × List Int)),_⟩=>by show LeT m_evals_Exact (evals_Exact.f k a0 a1 a2) _;unfold evals_Exact.f;exact go)
end
section
def s_fbits_exponent:FSpec:=⟨[.int .u64],[.int .i64],fun _ x=>(fbits_exponent.f x.1).map fun r=>(r,())⟩
def m_fbits_exponent (r:Int):TT s_fbits_exponent.rs:=(r,())
theorem o_fbits_exponent:FOk Tryz.prog 250 s_fbits_exponent :=
 fn_of (Bt:=blook []) (l:= []) (C:=noCuts) (by kernel_rfl) tab_ok trivial (fn:=Tryz.f250) (by kernel_rfl) rfl (by kernel_rfl) (by decide) (by kernel_rfl) (F:=fun k x=>fbits_exponent.f x.1) (m:=m_fbits_exponent) (fun k x=>rfl)
  (by exact trivial)
  (fun k ⟨(a0:Int),_⟩=>by show LeT m_fbits_exponent (fbits_exponent.f a0) _;unfold fbits_exponent.f;exact go)
end
section
attribute [local irreducible] fbits_exponent.f
def s_fbits_Kind:FSpec:=⟨[.int .u64],[.int .i64],fun _ x=>(fbits_Kind.f x.1).map fun r=>(r,())⟩
def m_fbits_Kind (r:Int):TT s_fbits_Kind.rs:=(r,())
theorem o_fbits_Kind:FOk Tryz.prog 205 s_fbits_Kind :=
 fn_of (Bt:=blook []) (l:= [(250, .pu s_fbits_exponent)]) (C:=noCuts) (by kernel_rfl) tab_ok ⟨o_fbits_exponent,trivial⟩ (fn:=Tryz.f205) (by kernel_rfl) rfl (by kernel_rfl) (by decide) (by kernel_rfl) (F:=fun k x=>fbits_Kind.f x.1) (m:=m_fbits_Kind) (fun k x=>rfl)
  (by exact trivial)
  (fun k ⟨(a0:Int),_⟩=>by show LeT m_fbits_Kind (fbits_Kind.f a0) _;unfold fbits_Kind.f;exact go)
end
section
def s_fbits_Nan:FSpec:=⟨[],[.int .u64],fun _ _=>(fbits_Nan.f).map fun r=>(r,())⟩
def m_fbits_Nan (r:Int):TT s_fbits_Nan.rs:=(r,())
theorem o_fbits_Nan:FOk Tryz.prog 206 s_fbits_Nan :=
 fn_of (Bt:=blook []) (l:= []) (C:=noCuts) (by kernel_rfl) tab_ok trivial (fn:=Tryz.f206) (by kernel_rfl) rfl (by kernel_rfl) (by decide) (by kernel_rfl) (F:=fun k x=>fbits_Nan.f) (m:=m_fbits_Nan) (fun k x=>rfl)
  (by exact trivial)
  (fun k x=>by show LeT m_fbits_Nan (fbits_Nan.f) _;unfold fbits_Nan.f;exact go)
end
section
attribute [local irreducible] fbits_Kind.f fbits_Nan.f
def s_fbits_Clean:FSpec:=⟨[.int .u64],[.int .u64],fun _ x=>(fbits_Clean.f x.1).map fun r=>(r,())⟩
def m_fbits_Clean (r:Int):TT s_fbits_Clean.rs:=(r,())
theorem o_fbits_Clean:FOk Tryz.prog 142 s_fbits_Clean :=
 fn_of (Bt:=blook []) (l:= [(205, .pu s_fbits_Kind),(206, .pu s_fbits_Nan)]) (C:=noCuts) (by kernel_rfl) tab_ok ⟨o_fbits_Kind,o_fbits_Nan,trivial⟩ (fn:=Tryz.f142) (by kernel_rfl) rfl (by kernel_rfl) (by decide) (by kernel_rfl) (F:=fun k x=>fbits_Clean.f x.1) (m:=m_fbits_Clean) (fun k x=>rfl)
  (by exact trivial)
  (fun k ⟨(a0:Int),_⟩=>by show LeT m_fbits_Clean (fbits_Clean.f a0) _;unfold fbits_Clean.f;exact go)
end
section
attribute [local irreducible] nat_Bits.f
def s_rat_Sign:FSpec:=⟨[(.cons .bool (.cons (.row 73 (.int .u64)) (.row 73 (.int .u64))))],[.int .i64],fun k x=>(rat_Sign.f k x.1.1 x.1.2.1 x.1.2.2).map fun r=>(r,())⟩
def m_rat_Sign (r:Int):TT s_rat_Sign.rs:=(r,())
theorem o_rat_Sign:FOk Tryz.prog 207 s_rat_Sign :=
 fn_of (Bt:=blook []) (l:= [(134, .pu s_nat_Bits)]) (C:=noCuts) (by kernel_rfl) tab_ok ⟨o_nat_Bits,trivial⟩ (fn:=Tryz.f207) (by kernel_rfl) rfl (by kernel_rfl) (by decide) (by kernel_rfl) (F:=fun k x=>rat_Sign.f k x.1.1 x.1.2.1 x.1.2.2) (m:=m_rat_Sign) (fun k x=>rfl)
  (by exact trivial)
  (fun k ⟨(a0:Bool × List Int × List Int),_⟩=>by show LeT m_rat_Sign (rat_Sign.f k a0.1 a0.2.1 a0.2.2) _;unfold rat_Sign.f;exact go)
end
section
def s_fbits_signed:FSpec:=⟨[.bool, .int .u64],[.int .u64],fun _ x=>(fbits_signed.f x.1 x.2.1).map fun r=>(r,())⟩
def m_fbits_signed (r:Int):TT s_fbits_signed.rs:=(r,())
theorem o_fbits_signed:FOk Tryz.prog 252 s_fbits_signed :=
 fn_of (Bt:=blook []) (l:= []) (C:=noCuts) (by kernel_rfl) tab_ok trivial (fn:=Tryz.f252) (by kernel_rfl) rfl (by kernel_rfl) (by decide) (by kernel_rfl) (F:=fun k x=>fbits_signed.f x.1 x.2.1) (m:=m_fbits_signed) (fun k x=>rfl)
  (by exact trivial)
  (fun k ⟨(a0:Bool),(a1:Int),_⟩=>by show LeT m_fbits_signed (fbits_signed.f a0 a1) _;unfold fbits_signed.f;exact go)
end
section
attribute [local irreducible] fbits_signed.f
def s_fbits_Inf:FSpec:=⟨[.bool],[.int .u64],fun _ x=>(fbits_Inf.f x.1).map fun r=>(r,())⟩
def m_fbits_Inf (r:Int):TT s_fbits_Inf.rs:=(r,())
theorem o_fbits_Inf:FOk Tryz.prog 209 s_fbits_Inf :=
 fn_of (Bt:=blook []) (l:= [(252, .pu s_fbits_signed)]) (C:=noCuts) (by kernel_rfl) tab_ok ⟨o_fbits_signed,trivial⟩ (fn:=Tryz.f209) (by kernel_rfl) rfl (by kernel_rfl) (by decide) (by kernel_rfl) (F:=fun k x=>fbits_Inf.f x.1) (m:=m_fbits_Inf) (fun k x=>rfl)
  (by exact trivial)
  (fun k ⟨(a0:Bool),_⟩=>by show LeT m_fbits_Inf (fbits_Inf.f a0) _;unfold fbits_Inf.f;exact go)
end
section
attribute [local irreducible] limb_Len.f fbits_signed.f
def s_fbits_Make:FSpec:=⟨[.bool, .int .u64, .int .i64],[.int .u64, .bool],fun k x=>(fbits_Make.f k x.1 x.2.1 x.2.2.1).map fun r=>(r.1,r.2,())⟩
def m_fbits_Make (r:Int × Bool):TT s_fbits_Make.rs:=(r.1,r.2,())
theorem o_fbits_Make:FOk Tryz.prog 251 s_fbits_Make :=
 fn_of (Bt:=blook []) (l:= [(195, .pu s_limb_Len),(252, .pu s_fbits_signed)]) (C:=noCuts) (by kernel_rfl) tab_ok ⟨o_limb_Len,o_fbits_signed,trivial⟩ (fn:=Tryz.f251) (by kernel_rfl) rfl (by kernel_rfl) (by decide) (by kernel_rfl) (F:=fun k x=>fbits_Make.f k x.1 x.2.1 x.2.2.1) (m:=m_fbits_Make) (fun k x=>rfl)
  (by exact trivial)
  (fun k ⟨(a0:Bool),(a1:Int),(a2:Int),_⟩=>by show LeT m_fbits_Make (fbits_Make.f k a0 a1 a2) _;unfold fbits_Make.f;unfold fbits_Make.j0;unfold fbits_Make.j1;unfold fbits_Make.j2;exact goq)
end
section
attribute [local irreducible] fbits_Inf.f fbits_Make.f
def s_fround_made:FSpec:=⟨[.bool, .int .u64, .int .i64],[.int .u64],fun k x=>(fround_made.f k x.1 x.2.1 x.2.2.1).map fun r=>(r,())⟩
def m_fround_made (r:Int):TT s_fround_made.rs:=(r,())
theorem o_fround_made:FOk Tryz.prog 208 s_fround_made :=
 fn_of (Bt:=blook []) (l:= [(209, .pu s_fbits_Inf),(251, .pu s_fbits_Make)]) (C:=noCuts) (by kernel_rfl) tab_ok ⟨o_fbits_Inf,o_fbits_Make,trivial⟩ (fn:=Tryz.f208) (by kernel_rfl) rfl (by kernel_rfl) (by decide) (by kernel_rfl) (F:=fun k x=>fround_made.f k x.1 x.2.1 x.2.2.1) (m:=m_fround_made) (fun k x=>rfl)
  (by exact trivial)
  (fun k ⟨(a0:Bool),(a1:Int),(a2:Int),_⟩=>by show LeT m_fround_made (fround_made.f k a0 a1 a2) _;unfold fround_made.f;exact go)
end
section
attribute [local irreducible] nat_Trim.f
def s_nat_Shl:FSpec:=⟨[(.row 73 (.int .u64)), .int .i64],[(.row 73 (.int .u64))],fun k x=>(nat_Shl.f k x.1 x.2.1).map fun r=>(r,())⟩
def m_nat_Shl (r:List Int):TT s_nat_Shl.rs:=(r,())
@[reducible] def q0_nat_Shl:List Slot:= [.tmp 6 [.ty (.int .i64)], .tmp 7 [.own .mine 7 73 (.int .u64)], .tmp 8 [.ty (.int .u64)], .tmp 25 [.ty (.row 73 (.int .u64))], .tmp 26 [.ty (.int .i64)], .tmp 27 [.ty (.int .i64)]]
def g0_nat_Shl (k:Nat) (x:TS q0_nat_Shl):Option (List Int):=match x with | ⟨⟨(x6:Int),_⟩,⟨(x7:List Int),_⟩,⟨(x8:Int),_⟩,⟨(x25:List Int),_⟩,⟨(x26:Int),_⟩,⟨(x27:Int),_⟩,_⟩=>if 0≤x6∧x6<64 then nat_Shl.l0 k x6 x7 x8 x25 x26 x27 else none
def c_nat_Shl:Cuts (TT s_nat_Shl.rs):=⟨⟨50,50,[]⟩,lookC [(0,⟨q0_nat_Shl,fun k x=>(g0_nat_Shl k x).map m_nat_Shl⟩)],lookC [],lookC []⟩
theorem o_nat_Shl:FOk Tryz.prog 210 s_nat_Shl :=
 fn_of (Bt:=blook []) (l:= [(187, .pu s_nat_Trim)]) (C:=c_nat_Shl) (by kernel_rfl) tab_ok ⟨o_nat_Trim,trivial⟩ (fn:=Tryz.f210) (by kernel_rfl) rfl (by kernel_rfl) (by decide) (by kernel_rfl) (F:=fun k x=>nat_Shl.f k x.1 x.2.1) (m:=m_nat_Shl) (fun k x=>rfl)
  (by
   refine And.intro ?_ ?_
   ·refine ob_loop (sl:=q0_nat_Shl) (F:=g0_nat_Shl) (fun ⟨⟨(x6:Int),_⟩,⟨(x7:List Int),_⟩,⟨(x8:Int),_⟩,⟨(x25:List Int),_⟩,⟨(x26:Int),_⟩,⟨(x27:Int),_⟩,_⟩=>by show (if 0≤x6∧x6<64 then nat_Shl.l0 0 x6 x7 x8 x25 x26 x27 else none)=none;split<;>rfl) fun k ⟨⟨(x6:Int),_⟩,⟨(x7:List Int),_⟩,⟨(x8:Int),_⟩,⟨(x25:List Int),_⟩,⟨(x26:Int),_⟩,⟨(x27:Int),_⟩,_⟩=> ?_
    show LeT m_nat_Shl (if 0≤x6∧x6<64 then nat_Shl.l0 (k+1) x6 x7 x8 x25 x26 x27 else none) _
    rw [nat_Shl.l0];exact go
   exact trivial)
  (fun k ⟨(a0:List Int),(a1:Int),_⟩=>by show LeT m_nat_Shl (nat_Shl.f k a0 a1) _;unfold nat_Shl.f;exact go)
end
section
def s_fround_even:FSpec:=⟨[.int .u64, .bool, .bool],[.int .u64],fun _ x=>(fround_even.f x.1 x.2.1 x.2.2.1).map fun r=>(r,())⟩
def m_fround_even (r:Int):TT s_fround_even.rs:=(r,())
theorem o_fround_even:FOk Tryz.prog 253 s_fround_even :=
 fn_of (Bt:=blook []) (l:= []) (C:=noCuts) (by kernel_rfl) tab_ok trivial (fn:=Tryz.f253) (by kernel_rfl) rfl (by kernel_rfl) (by decide) (by kernel_rfl) (F:=fun k x=>fround_even.f x.1 x.2.1 x.2.2.1) (m:=m_fround_even) (fun k x=>rfl)
  (by exact trivial)
  (fun k ⟨(a0:Int),(a1:Bool),(a2:Bool),_⟩=>by show LeT m_fround_even (fround_even.f a0 a1 a2) _;unfold fround_even.f;exact go)
end
section
attribute [local irreducible] limb_Len.f fround_made.f fbits_Inf.f fround_even.f
def s_fround_Word:FSpec:=⟨[.bool, .int .u64, .int .i64],[.int .u64],fun k x=>(fround_Word.f k x.1 x.2.1 x.2.2.1).map fun r=>(r,())⟩
def m_fround_Word (r:Int):TT s_fround_Word.rs:=(r,())
theorem o_fround_Word:FOk Tryz.prog 216 s_fround_Word :=
 fn_of (Bt:=blook []) (l:= [(195, .pu s_limb_Len),(208, .pu s_fround_made),(209, .pu s_fbits_Inf),(253, .pu s_fround_even)]) (C:=noCuts) (by kernel_rfl) tab_ok ⟨o_limb_Len,o_fround_made,o_fbits_Inf,o_fround_even,trivial⟩ (fn:=Tryz.f216) (by kernel_rfl) rfl (by kernel_rfl) (by decide) (by kernel_rfl) (F:=fun k x=>fround_Word.f k x.1 x.2.1 x.2.2.1) (m:=m_fround_Word) (fun k x=>rfl)
  (by exact trivial)
  (fun k ⟨(a0:Bool),(a1:Int),(a2:Int),_⟩=>by show LeT m_fround_Word (fround_Word.f k a0 a1 a2) _;unfold fround_Word.f;exact go)
end
section
def s_nat_Bit:FSpec:=⟨[(.row 73 (.int .u64)), .int .i64],[.bool],fun _ x=>(nat_Bit.f x.1 x.2.1).map fun r=>(r,())⟩
def m_nat_Bit (r:Bool):TT s_nat_Bit.rs:=(r,())
theorem o_nat_Bit:FOk Tryz.prog 254 s_nat_Bit :=
 fn_of (Bt:=blook []) (l:= []) (C:=noCuts) (by kernel_rfl) tab_ok trivial (fn:=Tryz.f254) (by kernel_rfl) rfl (by kernel_rfl) (by decide) (by kernel_rfl) (F:=fun k x=>nat_Bit.f x.1 x.2.1) (m:=m_nat_Bit) (fun k x=>rfl)
  (by exact trivial)
  (fun k ⟨(a0:List Int),(a1:Int),_⟩=>by show LeT m_nat_Bit (nat_Bit.f a0 a1) _;unfold nat_Bit.f;exact go)
end
section
attribute [local irreducible] nat_Bits.f nat_Bit.f
def s_nat_Even:FSpec:=⟨[(.row 73 (.int .u64))],[.int .i64],fun k x=>(nat_Even.f k x.1).map fun r=>(r,())⟩
def m_nat_Even (r:Int):TT s_nat_Even.rs:=(r,())
@[reducible] def q0_nat_Even:List Slot:= [.tmp 0 [.ty (.row 73 (.int .u64))], .tmp 7 [.ty (.int .i64)], .tmp 8 [.ty (.int .i64)]]
def g0_nat_Even (k:Nat) (x:TS q0_nat_Even):Option (Int):=nat_Even.l0 k x.1.1 x.2.1.1 x.2.2.1.1
def c_nat_Even:Cuts (TT s_nat_Even.rs):=⟨⟨16,16,[]⟩,lookC [(0,⟨q0_nat_Even,fun k x=>(g0_nat_Even k x).map m_nat_Even⟩)],lookC [],lookC []⟩
theorem o_nat_Even:FOk Tryz.prog 255 s_nat_Even :=
 fn_of (Bt:=blook []) (l:= [(134, .pu s_nat_Bits),(254, .pu s_nat_Bit)]) (C:=c_nat_Even) (by kernel_rfl) tab_ok ⟨o_nat_Bits,o_nat_Bit,trivial⟩ (fn:=Tryz.f255) (by kernel_rfl) rfl (by kernel_rfl) (by decide) (by kernel_rfl) (F:=fun k x=>nat_Even.f k x.1) (m:=m_nat_Even) (fun k x=>rfl)
  (by
   refine And.intro ?_ ?_
   ·refine ob_loop (sl:=q0_nat_Even) (F:=g0_nat_Even) (fun x=>rfl) fun k ⟨⟨(x0:List Int),_⟩,⟨(x7:Int),_⟩,⟨(x8:Int),_⟩,_⟩=> ?_
    show LeT m_nat_Even (nat_Even.l0 (k+1) x0 x7 x8) _
    rw [nat_Even.l0];exact go
   exact trivial)
  (fun k ⟨(a0:List Int),_⟩=>by show LeT m_nat_Even (nat_Even.f k a0) _;unfold nat_Even.f;exact go)
end
section
attribute [local irreducible] nat_Of.f nat_Add.f nat_Bits.f nat_Word.f fround_made.f fbits_Inf.f nat_Shl.f fround_Word.f nat_Shr.f fround_even.f nat_Bit.f nat_Even.f
def s_fround_Of:FSpec:=⟨[.bool,(.row 73 (.int .u64)), .int .i64, .bool],[.int .u64],fun k x=>(fround_Of.f k x.1 x.2.1 x.2.2.1 x.2.2.2.1).map fun r=>(r,())⟩
def m_fround_Of (r:Int):TT s_fround_Of.rs:=(r,())
@[reducible] def q0_fround_Of:List Slot:= [.tmp 0 [.ty .bool], .tmp 1 [.ty (.row 73 (.int .u64))], .tmp 2 [.ty (.int .i64)]]
def g0_fround_Of (k:Nat) (x:TS q0_fround_Of):Option (Int):=fround_Of.j0 k x.1.1 x.2.1.1 x.2.2.1.1
def c_fround_Of:Cuts (TT s_fround_Of.rs):=⟨⟨72,72,[]⟩,lookC [],lookC [(5,⟨q0_fround_Of,fun k x=>(g0_fround_Of k x).map m_fround_Of⟩)],lookC []⟩
theorem o_fround_Of:FOk Tryz.prog 211 s_fround_Of :=
 fn_of (Bt:=blook []) (l:= [(117, .pu s_nat_Of),(132, .pu s_nat_Add),(134, .pu s_nat_Bits),(199, .pu s_nat_Word),(208, .pu s_fround_made),(209, .pu s_fbits_Inf),(210, .pu s_nat_Shl),(216, .pu s_fround_Word),(249, .pu s_nat_Shr),(253, .pu s_fround_even),(254, .pu s_nat_Bit),(255, .pu s_nat_Even)]) (C:=c_fround_Of) (by kernel_rfl) tab_ok ⟨o_nat_Of,o_nat_Add,o_nat_Bits,o_nat_Word,o_fround_made,o_fbits_Inf,o_nat_Shl,o_fround_Word,o_nat_Shr,o_fround_even,o_nat_Bit,o_nat_Even,trivial⟩ (fn:=Tryz.f211) (by kernel_rfl) rfl (by kernel_rfl) (by decide) (by kernel_rfl) (F:=fun k x=>fround_Of.f k x.1 x.2.1 x.2.2.1 x.2.2.2.1) (m:=m_fround_Of) (fun k x=>rfl)
  (by
   refine And.intro ?_ ?_
   ·refine ob_join1 (sl:=q0_fround_Of) (F:=g0_fround_Of) (fun x=>rfl) fun k ⟨⟨(x0:Bool),_⟩,⟨(x1:List Int),_⟩,⟨(x2:Int),_⟩,_⟩=> ?_
    show LeT m_fround_Of (fround_Of.j0 (k+1) x0 x1 x2) _
    rw [fround_Of.j0];exact go
   exact trivial)
  (fun k ⟨(a0:Bool),(a1:List Int),(a2:Int),(a3:Bool),_⟩=>by show LeT m_fround_Of (fround_Of.f k a0 a1 a2 a3) _;unfold fround_Of.f;exact go)
end
section
attribute [local irreducible] nat_Bits.f quot_Div.f rat_Sign.f fround_made.f fbits_Inf.f nat_Shl.f fround_Of.f
def s_fround_FromRat:FSpec:=⟨[(.cons .bool (.cons (.row 73 (.int .u64)) (.row 73 (.int .u64))))],[.int .u64],fun k x=>(fround_FromRat.f k x.1.1 x.1.2.1 x.1.2.2).map fun r=>(r,())⟩
def m_fround_FromRat (r:Int):TT s_fround_FromRat.rs:=(r,())
theorem o_fround_FromRat:FOk Tryz.prog 143 s_fround_FromRat :=
 fn_of (Bt:=blook [(1,[0,1,3,0,8,31,63,127]),(7,[0,1,0,7,0,16,63,127,255,255,255,511,3071,8191])]) (l:= [(134, .pu s_nat_Bits),(138, .pu s_quot_Div),(207, .pu s_rat_Sign),(208, .pu s_fround_made),(209, .pu s_fbits_Inf),(210, .pu s_nat_Shl),(211, .pu s_fround_Of)]) (C:=noCuts) (by kernel_rfl) tab_ok ⟨o_nat_Bits,o_quot_Div,o_rat_Sign,o_fround_made,o_fbits_Inf,o_nat_Shl,o_fround_Of,trivial⟩ (fn:=Tryz.f143) (by kernel_rfl) rfl (by kernel_rfl) (by decide) (by kernel_rfl) (F:=fun k x=>fround_FromRat.f k x.1.1 x.1.2.1 x.1.2.2) (m:=m_fround_FromRat) (fun k x=>rfl)
  (by exact trivial)
  (fun k ⟨(a0:Bool × List Int × List Int),_⟩=>by show LeT m_fround_FromRat (fround_FromRat.f k a0.1 a0.2.1 a0.2.2) _;unfold fround_FromRat.f;unfold fround_FromRat.j0;exact goq)
end
section
attribute [local irreducible] fbits_Kind.f fbits_Nan.f
def s_fbits_Flip:FSpec:=⟨[.int .u64],[.int .u64],fun _ x=>(fbits_Flip.f x.1).map fun r=>(r,())⟩
def m_fbits_Flip (r:Int):TT s_fbits_Flip.rs:=(r,())
theorem o_fbits_Flip:FOk Tryz.prog 144 s_fbits_Flip :=
 fn_of (Bt:=blook []) (l:= [(205, .pu s_fbits_Kind),(206, .pu s_fbits_Nan)]) (C:=noCuts) (by kernel_rfl) tab_ok ⟨o_fbits_Kind,o_fbits_Nan,trivial⟩ (fn:=Tryz.f144) (by kernel_rfl) rfl (by kernel_rfl) (by decide) (by kernel_rfl) (F:=fun k x=>fbits_Flip.f x.1) (m:=m_fbits_Flip) (fun k x=>rfl)
  (by exact trivial)
  (fun k ⟨(a0:Int),_⟩=>by show LeT m_fbits_Flip (fbits_Flip.f a0) _;unfold fbits_Flip.f;exact go)
end
section
def s_fsum_odd:FSpec:=⟨[.int .u64, .int .i64],[.int .u64],fun _ x=>(fsum_odd.f x.1 x.2.1).map fun r=>(r,())⟩
def m_fsum_odd (r:Int):TT s_fsum_odd.rs:=(r,())
theorem o_fsum_odd:FOk Tryz.prog 256 s_fsum_odd :=
 fn_of (Bt:=blook []) (l:= []) (C:=noCuts) (by kernel_rfl) tab_ok trivial (fn:=Tryz.f256) (by kernel_rfl) rfl (by kernel_rfl) (by decide) (by kernel_rfl) (F:=fun k x=>fsum_odd.f x.1 x.2.1) (m:=m_fsum_odd) (fun k x=>rfl)
  (by exact trivial)
  (fun k ⟨(a0:Int),(a1:Int),_⟩=>by show LeT m_fsum_odd (fsum_odd.f a0 a1) _;unfold fsum_odd.f;exact go)
end
section
attribute [local irreducible] fround_Word.f fsum_odd.f
def s_fsum_finite:FSpec:=⟨[(.cons .bool (.cons (.int .u64) (.int .i64))),(.cons .bool (.cons (.int .u64) (.int .i64)))],[.int .u64],fun k x=>(fsum_finite.f k x.1.1 x.1.2.1 x.1.2.2 x.2.1.1 x.2.1.2.1 x.2.1.2.2).map fun r=>(r,())⟩
def m_fsum_finite (r:Int):TT s_fsum_finite.rs:=(r,())
theorem o_fsum_finite:FOk Tryz.prog 212 s_fsum_finite :=
 fn_of (Bt:=blook []) (l:= [(216, .pu s_fround_Word),(256, .pu s_fsum_odd)]) (C:=noCuts) (by kernel_rfl) tab_ok ⟨o_fround_Word,o_fsum_odd,trivial⟩ (fn:=Tryz.f212) (by kernel_rfl) rfl (by kernel_rfl) (by decide) (by kernel_rfl) (F:=fun k x=>fsum_finite.f k x.1.1 x.1.2.1 x.1.2.2 x.2.1.1 x.2.1.2.1 x.2.1.2.2) (m:=m_fsum_finite) (fun k x=>rfl)
  (by exact trivial)
  (fun k ⟨(a0:Bool × Int × Int),(a1:Bool × Int × Int),_⟩=>by show LeT m_fsum_finite (fsum_finite.f k a0.1 a0.2.1 a0.2.2 a1.1 a1.2.1 a1.2.2) _;unfold fsum_finite.f;unfold fsum_finite.j0;exact goq)
end
section
def s_fbits_Neg:FSpec:=⟨[.int .u64],[.bool],fun _ x=>(fbits_Neg.f x.1).map fun r=>(r,())⟩
def m_fbits_Neg (r:Bool):TT s_fbits_Neg.rs:=(r,())
theorem o_fbits_Neg:FOk Tryz.prog 214 s_fbits_Neg :=
 fn_of (Bt:=blook []) (l:= []) (C:=noCuts) (by kernel_rfl) tab_ok trivial (fn:=Tryz.f214) (by kernel_rfl) rfl (by kernel_rfl) (by decide) (by kernel_rfl) (F:=fun k x=>fbits_Neg.f x.1) (m:=m_fbits_Neg) (fun k x=>rfl)
  (by exact trivial)
  (fun k ⟨(a0:Int),_⟩=>by show LeT m_fbits_Neg (fbits_Neg.f a0) _;unfold fbits_Neg.f;exact go)
end
section
attribute [local irreducible] fbits_Kind.f fbits_Neg.f fbits_exponent.f
def s_fbits_Parts:FSpec:=⟨[.int .u64],[.bool, .int .u64, .int .i64, .bool],fun k x=>(fbits_Parts.f k x.1).map fun r=>(r.1,r.2.1,r.2.2.1,r.2.2.2,())⟩
def m_fbits_Parts (r:Bool × Int × Int × Bool):TT s_fbits_Parts.rs:=(r.1,r.2.1,r.2.2.1,r.2.2.2,())
theorem o_fbits_Parts:FOk Tryz.prog 215 s_fbits_Parts :=
 fn_of (Bt:=blook []) (l:= [(205, .pu s_fbits_Kind),(214, .pu s_fbits_Neg),(250, .pu s_fbits_exponent)]) (C:=noCuts) (by kernel_rfl) tab_ok ⟨o_fbits_Kind,o_fbits_Neg,o_fbits_exponent,trivial⟩ (fn:=Tryz.f215) (by kernel_rfl) rfl (by kernel_rfl) (by decide) (by kernel_rfl) (F:=fun k x=>fbits_Parts.f k x.1) (m:=m_fbits_Parts) (fun k x=>rfl)
  (by exact trivial)
  (fun k ⟨(a0:Int),_⟩=>by show LeT m_fbits_Parts (fbits_Parts.f k a0) _;unfold fbits_Parts.f;unfold fbits_Parts.j0;exact goq)
end
section
attribute [local irreducible] fbits_Parts.f
def s_fsum_of:FSpec:=⟨[.int .u64],[(.cons .bool (.cons (.int .u64) (.int .i64)))],fun k x=>(fsum_of.f k x.1).map fun r=>((r.1,r.2.1,r.2.2),())⟩
def m_fsum_of (r:Bool × Int × Int):TT s_fsum_of.rs:=((r.1,r.2.1,r.2.2),())
theorem o_fsum_of:FOk Tryz.prog 213 s_fsum_of :=
 fn_of (Bt:=blook []) (l:= [(215, .pu s_fbits_Parts)]) (C:=noCuts) (by kernel_rfl) tab_ok ⟨o_fbits_Parts,trivial⟩ (fn:=Tryz.f213) (by kernel_rfl) rfl (by kernel_rfl) (by decide) (by kernel_rfl) (F:=fun k x=>fsum_of.f k x.1) (m:=m_fsum_of) (fun k x=>rfl)
  (by exact trivial)
  (fun k ⟨(a0:Int),_⟩=>by show LeT m_fsum_of (fsum_of.f k a0) _;unfold fsum_of.f;exact go)
end
section
attribute [local irreducible] fbits_Kind.f fbits_Nan.f fsum_finite.f fsum_of.f
def s_fsum_Add:FSpec:=⟨[.int .u64, .int .u64],[.int .u64],fun k x=>(fsum_Add.f k x.1 x.2.1).map fun r=>(r,())⟩
def m_fsum_Add (r:Int):TT s_fsum_Add.rs:=(r,())
@[reducible] def q0_fsum_Add:List Slot:= [.tmp 0 [.ty (.int .u64)], .tmp 1 [.ty (.int .u64)], .tmp 5 [.ty (.int .i64)], .tmp 6 [.ty (.int .i64)], .tmp 11 [.ty .bool]]
def g0_fsum_Add (k:Nat) (x:TS q0_fsum_Add):Option (Int):=fsum_Add.j0 k x.1.1 x.2.1.1 x.2.2.1.1 x.2.2.2.1.1 x.2.2.2.2.1.1
@[reducible] def q1_fsum_Add:List Slot:= [.tmp 0 [.ty (.int .u64)], .tmp 1 [.ty (.int .u64)], .tmp 5 [.ty (.int .i64)], .tmp 6 [.ty (.int .i64)], .tmp 19 [.ty .bool]]
def g1_fsum_Add (k:Nat) (x:TS q1_fsum_Add):Option (Int):=fsum_Add.j1 k x.1.1 x.2.1.1 x.2.2.1.1 x.2.2.2.1.1 x.2.2.2.2.1.1
def c_fsum_Add:Cuts (TT s_fsum_Add.rs):=⟨⟨45,45,[]⟩,lookC [],lookC [],lookC [(2,⟨q0_fsum_Add,fun k x=>(g0_fsum_Add k x).map m_fsum_Add⟩),(4,⟨q1_fsum_Add,fun k x=>(g1_fsum_Add k x).map m_fsum_Add⟩)]⟩
theorem o_fsum_Add:FOk Tryz.prog 145 s_fsum_Add :=
 fn_of (Bt:=blook []) (l:= [(205, .pu s_fbits_Kind),(206, .pu s_fbits_Nan),(212, .pu s_fsum_finite),(213, .pu s_fsum_of)]) (C:=c_fsum_Add) (by kernel_rfl) tab_ok ⟨o_fbits_Kind,o_fbits_Nan,o_fsum_finite,o_fsum_of,trivial⟩ (fn:=Tryz.f145) (by kernel_rfl) rfl (by kernel_rfl) (by decide) (by kernel_rfl) (F:=fun k x=>fsum_Add.f k x.1 x.2.1) (m:=m_fsum_Add) (fun k x=>rfl)
  (by
   refine And.intro ?_ ?_
   ·refine ob_join1 (sl:=q0_fsum_Add) (F:=g0_fsum_Add) (fun x=>rfl) fun k ⟨⟨(x0:Int),_⟩,⟨(x1:Int),_⟩,⟨(x5:Int),_⟩,⟨(x6:Int),_⟩,⟨(x11:Bool),_⟩,_⟩=> ?_
    show LeT m_fsum_Add (fsum_Add.j0 (k+1) x0 x1 x5 x6 x11) _
    rw [fsum_Add.j0];exact go
   refine And.intro ?_ ?_
   ·refine ob_join1 (sl:=q1_fsum_Add) (F:=g1_fsum_Add) (fun x=>rfl) fun k ⟨⟨(x0:Int),_⟩,⟨(x1:Int),_⟩,⟨(x5:Int),_⟩,⟨(x6:Int),_⟩,⟨(x19:Bool),_⟩,_⟩=> ?_
    show LeT m_fsum_Add (fsum_Add.j1 (k+1) x0 x1 x5 x6 x19) _
    rw [fsum_Add.j1];exact go
   exact trivial)
  (fun k ⟨(a0:Int),(a1:Int),_⟩=>by show LeT m_fsum_Add (fsum_Add.f k a0 a1) _;unfold fsum_Add.f;exact go)
end
section
attribute [local irreducible] fbits_Flip.f fsum_Add.f
def s_fsum_Sub:FSpec:=⟨[.int .u64, .int .u64],[.int .u64],fun k x=>(fsum_Sub.f k x.1 x.2.1).map fun r=>(r,())⟩
def m_fsum_Sub (r:Int):TT s_fsum_Sub.rs:=(r,())
theorem o_fsum_Sub:FOk Tryz.prog 146 s_fsum_Sub :=
 fn_of (Bt:=blook []) (l:= [(144, .pu s_fbits_Flip),(145, .pu s_fsum_Add)]) (C:=noCuts) (by kernel_rfl) tab_ok ⟨o_fbits_Flip,o_fsum_Add,trivial⟩ (fn:=Tryz.f146) (by kernel_rfl) rfl (by kernel_rfl) (by decide) (by kernel_rfl) (F:=fun k x=>fsum_Sub.f k x.1 x.2.1) (m:=m_fsum_Sub) (fun k x=>rfl)
  (by exact trivial)
  (fun k ⟨(a0:Int),(a1:Int),_⟩=>by show LeT m_fsum_Sub (fsum_Sub.f k a0 a1) _;unfold fsum_Sub.f;exact go)
end
section
attribute [local irreducible] limb_Len.f limb_Mul.f fbits_Kind.f fbits_Nan.f fbits_Inf.f fbits_Neg.f fbits_Parts.f fround_Word.f
def s_fprod_Mul:FSpec:=⟨[.int .u64, .int .u64],[.int .u64],fun k x=>(fprod_Mul.f k x.1 x.2.1).map fun r=>(r,())⟩
def m_fprod_Mul (r:Int):TT s_fprod_Mul.rs:=(r,())
@[reducible] def q0_fprod_Mul:List Slot:= [.tmp 0 [.ty (.int .u64)], .tmp 1 [.ty (.int .u64)], .tmp 5 [.ty (.int .i64)], .tmp 6 [.ty (.int .i64)], .tmp 7 [.ty .bool], .tmp 29 [.ty .bool]]
def g0_fprod_Mul (k:Nat) (x:TS q0_fprod_Mul):Option (Int):=fprod_Mul.j0 k x.1.1 x.2.1.1 x.2.2.1.1 x.2.2.2.1.1 x.2.2.2.2.1.1 x.2.2.2.2.2.1.1
@[reducible] def q1_fprod_Mul:List Slot:= [.tmp 0 [.ty (.int .u64)], .tmp 1 [.ty (.int .u64)], .tmp 5 [.ty (.int .i64)], .tmp 6 [.ty (.int .i64)], .tmp 7 [.ty .bool], .tmp 37 [.ty .bool]]
def g1_fprod_Mul (k:Nat) (x:TS q1_fprod_Mul):Option (Int):=fprod_Mul.j1 k x.1.1 x.2.1.1 x.2.2.1.1 x.2.2.2.1.1 x.2.2.2.2.1.1 x.2.2.2.2.2.1.1
@[reducible] def q2_fprod_Mul:List Slot:= [.tmp 7 [.ty .bool], .tmp 49 [.ty .bool]]
def g2_fprod_Mul (k:Nat) (x:TS q2_fprod_Mul):Option (Int):=fprod_Mul.j2 k x.1.1 x.2.1.1
def c_fprod_Mul:Cuts (TT s_fprod_Mul.rs):=⟨⟨106,106,[]⟩,lookC [],lookC [],lookC [(3,⟨q0_fprod_Mul,fun k x=>(g0_fprod_Mul k x).map m_fprod_Mul⟩),(5,⟨q1_fprod_Mul,fun k x=>(g1_fprod_Mul k x).map m_fprod_Mul⟩),(6,⟨q2_fprod_Mul,fun k x=>(g2_fprod_Mul k x).map m_fprod_Mul⟩)]⟩
theorem o_fprod_Mul:FOk Tryz.prog 147 s_fprod_Mul :=
 fn_of (Bt:=blook [(15,[0,0,2,7,0,0,48,127,255])]) (l:= [(195, .pu s_limb_Len),(196, .pu s_limb_Mul),(205, .pu s_fbits_Kind),(206, .pu s_fbits_Nan),(209, .pu s_fbits_Inf),(214, .pu s_fbits_Neg),(215, .pu s_fbits_Parts),(216, .pu s_fround_Word)]) (C:=c_fprod_Mul) (by kernel_rfl) tab_ok ⟨o_limb_Len,o_limb_Mul,o_fbits_Kind,o_fbits_Nan,o_fbits_Inf,o_fbits_Neg,o_fbits_Parts,o_fround_Word,trivial⟩ (fn:=Tryz.f147) (by kernel_rfl) rfl (by kernel_rfl) (by decide) (by kernel_rfl) (F:=fun k x=>fprod_Mul.f k x.1 x.2.1) (m:=m_fprod_Mul) (fun k x=>rfl)
  (by
   refine And.intro ?_ ?_
   ·refine ob_join1 (sl:=q0_fprod_Mul) (F:=g0_fprod_Mul) (fun x=>rfl) fun k ⟨⟨(x0:Int),_⟩,⟨(x1:Int),_⟩,⟨(x5:Int),_⟩,⟨(x6:Int),_⟩,⟨(x7:Bool),_⟩,⟨(x29:Bool),_⟩,_⟩=> ?_
    show LeT m_fprod_Mul (fprod_Mul.j0 (k+1) x0 x1 x5 x6 x7 x29) _
    rw [fprod_Mul.j0];exact go
   refine And.intro ?_ ?_
   ·refine ob_join1 (sl:=q1_fprod_Mul) (F:=g1_fprod_Mul) (fun x=>rfl) fun k ⟨⟨(x0:Int),_⟩,⟨(x1:Int),_⟩,⟨(x5:Int),_⟩,⟨(x6:Int),_⟩,⟨(x7:Bool),_⟩,⟨(x37:Bool),_⟩,_⟩=> ?_
    show LeT m_fprod_Mul (fprod_Mul.j1 (k+1) x0 x1 x5 x6 x7 x37) _
    rw [fprod_Mul.j1];exact go
   refine And.intro ?_ ?_
   ·refine ob_join1 (sl:=q2_fprod_Mul) (F:=g2_fprod_Mul) (fun x=>rfl) fun k ⟨⟨(x7:Bool),_⟩,⟨(x49:Bool),_⟩,_⟩=> ?_
    show LeT m_fprod_Mul (fprod_Mul.j2 (k+1) x7 x49) _
    rw [fprod_Mul.j2];exact go
   exact trivial)
  (fun k ⟨(a0:Int),(a1:Int),_⟩=>by show LeT m_fprod_Mul (fprod_Mul.f k a0 a1) _;unfold fprod_Mul.f;exact go)
end
section
attribute [local irreducible] fbits_Make.f
def s_fprod_signed:FSpec:=⟨[.bool],[.int .u64],fun k x=>(fprod_signed.f k x.1).map fun r=>(r,())⟩
def m_fprod_signed (r:Int):TT s_fprod_signed.rs:=(r,())
theorem o_fprod_signed:FOk Tryz.prog 217 s_fprod_signed :=
 fn_of (Bt:=blook []) (l:= [(251, .pu s_fbits_Make)]) (C:=noCuts) (by kernel_rfl) tab_ok ⟨o_fbits_Make,trivial⟩ (fn:=Tryz.f217) (by kernel_rfl) rfl (by kernel_rfl) (by decide) (by kernel_rfl) (F:=fun k x=>fprod_signed.f k x.1) (m:=m_fprod_signed) (fun k x=>rfl)
  (by exact trivial)
  (fun k ⟨(a0:Bool),_⟩=>by show LeT m_fprod_signed (fprod_signed.f k a0) _;unfold fprod_signed.f;exact go)
end
section
attribute [local irreducible] limb_Len.f fbits_Kind.f fbits_Nan.f fbits_Inf.f fbits_Neg.f fbits_Parts.f fround_Word.f fprod_signed.f limb_Div.f
def s_fprod_Div:FSpec:=⟨[.int .u64, .int .u64],[.int .u64],fun k x=>(fprod_Div.f k x.1 x.2.1).map fun r=>(r,())⟩
def m_fprod_Div (r:Int):TT s_fprod_Div.rs:=(r,())
@[reducible] def q0_fprod_Div:List Slot:= [.tmp 0 [.ty (.int .u64)], .tmp 1 [.ty (.int .u64)], .tmp 5 [.ty (.int .i64)], .tmp 6 [.ty (.int .i64)], .tmp 7 [.ty .bool], .tmp 30 [.ty .bool]]
def g0_fprod_Div (k:Nat) (x:TS q0_fprod_Div):Option (Int):=fprod_Div.j0 k x.1.1 x.2.1.1 x.2.2.1.1 x.2.2.2.1.1 x.2.2.2.2.1.1 x.2.2.2.2.2.1.1
@[reducible] def q1_fprod_Div:List Slot:= [.tmp 0 [.ty (.int .u64)], .tmp 1 [.ty (.int .u64)], .tmp 5 [.ty (.int .i64)], .tmp 6 [.ty (.int .i64)], .tmp 7 [.ty .bool], .tmp 51 [.ty .bool]]
def g1_fprod_Div (k:Nat) (x:TS q1_fprod_Div):Option (Int):=fprod_Div.j1 k x.1.1 x.2.1.1 x.2.2.1.1 x.2.2.2.1.1 x.2.2.2.2.1.1 x.2.2.2.2.2.1.1
def c_fprod_Div:Cuts (TT s_fprod_Div.rs):=⟨⟨115,115,[]⟩,lookC [],lookC [],lookC [(3,⟨q0_fprod_Div,fun k x=>(g0_fprod_Div k x).map m_fprod_Div⟩),(5,⟨q1_fprod_Div,fun k x=>(g1_fprod_Div k x).map m_fprod_Div⟩)]⟩
theorem o_fprod_Div:FOk Tryz.prog 148 s_fprod_Div :=
 fn_of (Bt:=blook [(12,[0,0,3,0,0,24,63,127,255,255,255,511,3071,8191])]) (l:= [(195, .pu s_limb_Len),(205, .pu s_fbits_Kind),(206, .pu s_fbits_Nan),(209, .pu s_fbits_Inf),(214, .pu s_fbits_Neg),(215, .pu s_fbits_Parts),(216, .pu s_fround_Word),(217, .pu s_fprod_signed),(218, .pu s_limb_Div)]) (C:=c_fprod_Div) (by kernel_rfl) tab_ok ⟨o_limb_Len,o_fbits_Kind,o_fbits_Nan,o_fbits_Inf,o_fbits_Neg,o_fbits_Parts,o_fround_Word,o_fprod_signed,o_limb_Div,trivial⟩ (fn:=Tryz.f148) (by kernel_rfl) rfl (by kernel_rfl) (by decide) (by kernel_rfl) (F:=fun k x=>fprod_Div.f k x.1 x.2.1) (m:=m_fprod_Div) (fun k x=>rfl)
  (by
   refine And.intro ?_ ?_
   ·refine ob_join1 (sl:=q0_fprod_Div) (F:=g0_fprod_Div) (fun x=>rfl) fun k ⟨⟨(x0:Int),_⟩,⟨(x1:Int),_⟩,⟨(x5:Int),_⟩,⟨(x6:Int),_⟩,⟨(x7:Bool),_⟩,⟨(x30:Bool),_⟩,_⟩=> ?_
    show LeT m_fprod_Div (fprod_Div.j0 (k+1) x0 x1 x5 x6 x7 x30) _
    rw [fprod_Div.j0];exact go
   refine And.intro ?_ ?_
   ·refine ob_join1 (sl:=q1_fprod_Div) (F:=g1_fprod_Div) (fun x=>rfl) fun k ⟨⟨(x0:Int),_⟩,⟨(x1:Int),_⟩,⟨(x5:Int),_⟩,⟨(x6:Int),_⟩,⟨(x7:Bool),_⟩,⟨(x51:Bool),_⟩,_⟩=> ?_
    show LeT m_fprod_Div (fprod_Div.j1 (k+1) x0 x1 x5 x6 x7 x51) _
    rw [fprod_Div.j1];exact go
   exact trivial)
  (fun k ⟨(a0:Int),(a1:Int),_⟩=>by show LeT m_fprod_Div (fprod_Div.f k a0 a1) _;unfold fprod_Div.f;exact go)
end
section
attribute [local irreducible] limb_Mul.f
def s_fprod_root:FSpec:=⟨[.int .u64],[.int .u64, .bool],fun k x=>(fprod_root.f k x.1).map fun r=>(r.1,r.2,())⟩
def m_fprod_root (r:Int × Bool):TT s_fprod_root.rs:=(r.1,r.2,())
@[reducible] def q0_fprod_root:List Slot:= [.tmp 0 [.ty (.int .u64)], .tmp 4 [.ty (.int .u64)], .tmp 5 [.ty (.int .u64)]]
def g0_fprod_root (k:Nat) (x:TS q0_fprod_root):Option (Int × Bool):=fprod_root.l0 k x.1.1 x.2.1.1 x.2.2.1.1
def c_fprod_root:Cuts (TT s_fprod_root.rs):=⟨⟨53,53,[]⟩,lookC [(0,⟨q0_fprod_root,fun k x=>(g0_fprod_root k x).map m_fprod_root⟩)],lookC [],lookC []⟩
theorem o_fprod_root:FOk Tryz.prog 219 s_fprod_root :=
 fn_of (Bt:=blook []) (l:= [(196, .pu s_limb_Mul)]) (C:=c_fprod_root) (by kernel_rfl) tab_ok ⟨o_limb_Mul,trivial⟩ (fn:=Tryz.f219) (by kernel_rfl) rfl (by kernel_rfl) (by decide) (by kernel_rfl) (F:=fun k x=>fprod_root.f k x.1) (m:=m_fprod_root) (fun k x=>rfl)
  (by
   refine And.intro ?_ ?_
   ·refine ob_loop (sl:=q0_fprod_root) (F:=g0_fprod_root) (fun x=>rfl) fun k ⟨⟨(x0:Int),_⟩,⟨(x4:Int),_⟩,⟨(x5:Int),_⟩,_⟩=> ?_
    show LeT m_fprod_root (fprod_root.l0 (k+1) x0 x4 x5) _
    rw [fprod_root.l0];exact go
   exact trivial)
  (fun k ⟨(a0:Int),_⟩=>by show LeT m_fprod_root (fprod_root.f k a0) _;unfold fprod_root.f;exact go)
end
section
attribute [local irreducible] limb_Len.f fbits_Kind.f fbits_Nan.f fbits_Neg.f fbits_Parts.f fround_Word.f fprod_root.f
def s_fprod_Sqrt:FSpec:=⟨[.int .u64],[.int .u64],fun k x=>(fprod_Sqrt.f k x.1).map fun r=>(r,())⟩
def m_fprod_Sqrt (r:Int):TT s_fprod_Sqrt.rs:=(r,())
@[reducible] def q0_fprod_Sqrt:List Slot:= [.tmp 4 [.ty (.int .u64)], .tmp 5 [.ty (.int .i64)], .tmp 7 [.ty (.int .i64)]]
def g0_fprod_Sqrt (k:Nat) (x:TS q0_fprod_Sqrt):Option (Int):=fprod_Sqrt.j0 k x.1.1 x.2.1.1 x.2.2.1.1
def c_fprod_Sqrt:Cuts (TT s_fprod_Sqrt.rs):=⟨⟨61,61,[]⟩,lookC [],lookC [(15,⟨q0_fprod_Sqrt,fun k x=>(g0_fprod_Sqrt k x).map m_fprod_Sqrt⟩)],lookC []⟩
theorem o_fprod_Sqrt:FOk Tryz.prog 149 s_fprod_Sqrt :=
 fn_of (Bt:=blook []) (l:= [(195, .pu s_limb_Len),(205, .pu s_fbits_Kind),(206, .pu s_fbits_Nan),(214, .pu s_fbits_Neg),(215, .pu s_fbits_Parts),(216, .pu s_fround_Word),(219, .pu s_fprod_root)]) (C:=c_fprod_Sqrt) (by kernel_rfl) tab_ok ⟨o_limb_Len,o_fbits_Kind,o_fbits_Nan,o_fbits_Neg,o_fbits_Parts,o_fround_Word,o_fprod_root,trivial⟩ (fn:=Tryz.f149) (by kernel_rfl) rfl (by kernel_rfl) (by decide) (by kernel_rfl) (F:=fun k x=>fprod_Sqrt.f k x.1) (m:=m_fprod_Sqrt) (fun k x=>rfl)
  (by
   refine And.intro ?_ ?_
   ·refine ob_join1 (sl:=q0_fprod_Sqrt) (F:=g0_fprod_Sqrt) (fun x=>rfl) fun k ⟨⟨(x4:Int),_⟩,⟨(x5:Int),_⟩,⟨(x7:Int),_⟩,_⟩=> ?_
    show LeT m_fprod_Sqrt (fprod_Sqrt.j0 (k+1) x4 x5 x7) _
    rw [fprod_Sqrt.j0];exact go
   exact trivial)
  (fun k ⟨(a0:Int),_⟩=>by show LeT m_fprod_Sqrt (fprod_Sqrt.f k a0) _;unfold fprod_Sqrt.f;exact go)
end
section
attribute [local irreducible] fbits_Kind.f
def s_fcmp_known:FSpec:=⟨[.int .u64, .int .u64],[.bool],fun _ x=>(fcmp_known.f x.1 x.2.1).map fun r=>(r,())⟩
def m_fcmp_known (r:Bool):TT s_fcmp_known.rs:=(r,())
theorem o_fcmp_known:FOk Tryz.prog 243 s_fcmp_known :=
 fn_of (Bt:=blook []) (l:= [(205, .pu s_fbits_Kind)]) (C:=noCuts) (by kernel_rfl) tab_ok ⟨o_fbits_Kind,trivial⟩ (fn:=Tryz.f243) (by kernel_rfl) rfl (by kernel_rfl) (by decide) (by kernel_rfl) (F:=fun k x=>fcmp_known.f x.1 x.2.1) (m:=m_fcmp_known) (fun k x=>rfl)
  (by exact trivial)
  (fun k ⟨(a0:Int),(a1:Int),_⟩=>by show LeT m_fcmp_known (fcmp_known.f a0 a1) _;unfold fcmp_known.f;exact go)
end
section
attribute [local irreducible] fbits_Neg.f
def s_fcmp_key:FSpec:=⟨[.int .u64],[.int .i64],fun _ x=>(fcmp_key.f x.1).map fun r=>(r,())⟩
def m_fcmp_key (r:Int):TT s_fcmp_key.rs:=(r,())
theorem o_fcmp_key:FOk Tryz.prog 244 s_fcmp_key :=
 fn_of (Bt:=blook []) (l:= [(214, .pu s_fbits_Neg)]) (C:=noCuts) (by kernel_rfl) tab_ok ⟨o_fbits_Neg,trivial⟩ (fn:=Tryz.f244) (by kernel_rfl) rfl (by kernel_rfl) (by decide) (by kernel_rfl) (F:=fun k x=>fcmp_key.f x.1) (m:=m_fcmp_key) (fun k x=>rfl)
  (by exact trivial)
  (fun k ⟨(a0:Int),_⟩=>by show LeT m_fcmp_key (fcmp_key.f a0) _;unfold fcmp_key.f;exact go)
end
section
attribute [local irreducible] fcmp_known.f fcmp_key.f
def s_fcmp_Less:FSpec:=⟨[.int .u64, .int .u64],[.bool],fun _ x=>(fcmp_Less.f x.1 x.2.1).map fun r=>(r,())⟩
def m_fcmp_Less (r:Bool):TT s_fcmp_Less.rs:=(r,())
theorem o_fcmp_Less:FOk Tryz.prog 180 s_fcmp_Less :=
 fn_of (Bt:=blook []) (l:= [(243, .pu s_fcmp_known),(244, .pu s_fcmp_key)]) (C:=noCuts) (by kernel_rfl) tab_ok ⟨o_fcmp_known,o_fcmp_key,trivial⟩ (fn:=Tryz.f180) (by kernel_rfl) rfl (by kernel_rfl) (by decide) (by kernel_rfl) (F:=fun k x=>fcmp_Less.f x.1 x.2.1) (m:=m_fcmp_Less) (fun k x=>rfl)
  (by exact trivial)
  (fun k ⟨(a0:Int),(a1:Int),_⟩=>by show LeT m_fcmp_Less (fcmp_Less.f a0 a1) _;unfold fcmp_Less.f;exact go)
end
section
attribute [local irreducible] limb_Len.f fbits_Parts.f
def s_fcmp_Near:FSpec:=⟨[.int .u64],[.int .i64, .bool],fun k x=>(fcmp_Near.f k x.1).map fun r=>(r.1,r.2,())⟩
def m_fcmp_Near (r:Int × Bool):TT s_fcmp_Near.rs:=(r.1,r.2,())
@[reducible] def q0_fcmp_Near:List Slot:= [.tmp 4 [.ty .bool], .tmp 5 [.ty (.int .u64)], .tmp 6 [.ty (.int .i64)], .tmp 25 [.ty .bool]]
def g0_fcmp_Near (k:Nat) (x:TS q0_fcmp_Near):Option (Int × Bool):=fcmp_Near.j0 k x.1.1 x.2.1.1 x.2.2.1.1 x.2.2.2.1.1
@[reducible] def q1_fcmp_Near:List Slot:= [.tmp 4 [.ty .bool], .tmp 8 [.ty (.int .i64)], .tmp 55 [.ty .bool]]
def g1_fcmp_Near (k:Nat) (x:TS q1_fcmp_Near):Option (Int × Bool):=fcmp_Near.j1 k x.1.1 x.2.1.1 x.2.2.1.1
def c_fcmp_Near:Cuts (TT s_fcmp_Near.rs):=⟨⟨62,62,[]⟩,lookC [],lookC [],lookC [(2,⟨q0_fcmp_Near,fun k x=>(g0_fcmp_Near k x).map m_fcmp_Near⟩),(10,⟨q1_fcmp_Near,fun k x=>(g1_fcmp_Near k x).map m_fcmp_Near⟩)]⟩
theorem o_fcmp_Near:FOk Tryz.prog 220 s_fcmp_Near :=
 fn_of (Bt:=blook []) (l:= [(195, .pu s_limb_Len),(215, .pu s_fbits_Parts)]) (C:=c_fcmp_Near) (by kernel_rfl) tab_ok ⟨o_limb_Len,o_fbits_Parts,trivial⟩ (fn:=Tryz.f220) (by kernel_rfl) rfl (by kernel_rfl) (by decide) (by kernel_rfl) (F:=fun k x=>fcmp_Near.f k x.1) (m:=m_fcmp_Near) (fun k x=>rfl)
  (by
   refine And.intro ?_ ?_
   ·refine ob_join1 (sl:=q0_fcmp_Near) (F:=g0_fcmp_Near) (fun x=>rfl) fun k ⟨⟨(x4:Bool),_⟩,⟨(x5:Int),_⟩,⟨(x6:Int),_⟩,⟨(x25:Bool),_⟩,_⟩=> ?_
    show LeT m_fcmp_Near (fcmp_Near.j0 (k+1) x4 x5 x6 x25) _
    rw [fcmp_Near.j0];exact go
   refine And.intro ?_ ?_
   ·refine ob_join1 (sl:=q1_fcmp_Near) (F:=g1_fcmp_Near) (fun x=>rfl) fun k ⟨⟨(x4:Bool),_⟩,⟨(x8:Int),_⟩,⟨(x55:Bool),_⟩,_⟩=> ?_
    show LeT m_fcmp_Near (fcmp_Near.j1 (k+1) x4 x8 x55) _
    rw [fcmp_Near.j1];exact go
   exact trivial)
  (fun k ⟨(a0:Int),_⟩=>by show LeT m_fcmp_Near (fcmp_Near.f k a0) _;unfold fcmp_Near.f;exact go)
end
section
attribute [local irreducible] fround_Word.f
def s_fround_FromInt:FSpec:=⟨[.int .i64],[.int .u64],fun k x=>(fround_FromInt.f k x.1).map fun r=>(r,())⟩
def m_fround_FromInt (r:Int):TT s_fround_FromInt.rs:=(r,())
theorem o_fround_FromInt:FOk Tryz.prog 221 s_fround_FromInt :=
 fn_of (Bt:=blook []) (l:= [(216, .pu s_fround_Word)]) (C:=noCuts) (by kernel_rfl) tab_ok ⟨o_fround_Word,trivial⟩ (fn:=Tryz.f221) (by kernel_rfl) rfl (by kernel_rfl) (by decide) (by kernel_rfl) (F:=fun k x=>fround_FromInt.f k x.1) (m:=m_fround_FromInt) (fun k x=>rfl)
  (by exact trivial)
  (fun k ⟨(a0:Int),_⟩=>by show LeT m_fround_FromInt (fround_FromInt.f k a0) _;unfold fround_FromInt.f;exact go)
end
section
attribute [local irreducible] fprod_Div.f fround_FromInt.f
def s_kernel_part:FSpec:=⟨[.int .i64],[.int .u64],fun k x=>(kernel_part.f k x.1).map fun r=>(r,())⟩
def m_kernel_part (r:Int):TT s_kernel_part.rs:=(r,())
theorem o_kernel_part:FOk Tryz.prog 222 s_kernel_part :=
 fn_of (Bt:=blook []) (l:= [(148, .pu s_fprod_Div),(221, .pu s_fround_FromInt)]) (C:=noCuts) (by kernel_rfl) tab_ok ⟨o_fprod_Div,o_fround_FromInt,trivial⟩ (fn:=Tryz.f222) (by kernel_rfl) rfl (by kernel_rfl) (by decide) (by kernel_rfl) (F:=fun k x=>kernel_part.f k x.1) (m:=m_kernel_part) (fun k x=>rfl)
  (by exact trivial)
  (fun k ⟨(a0:Int),_⟩=>by show LeT m_kernel_part (kernel_part.f k a0) _;unfold kernel_part.f;exact go)
end
section
attribute [local irreducible] fbits_Clean.f fbits_Parts.f fround_Word.f
def s_fcmp_Scale:FSpec:=⟨[.int .u64, .int .i64],[.int .u64],fun k x=>(fcmp_Scale.f k x.1 x.2.1).map fun r=>(r,())⟩
def m_fcmp_Scale (r:Int):TT s_fcmp_Scale.rs:=(r,())
theorem o_fcmp_Scale:FOk Tryz.prog 223 s_fcmp_Scale :=
 fn_of (Bt:=blook []) (l:= [(142, .pu s_fbits_Clean),(215, .pu s_fbits_Parts),(216, .pu s_fround_Word)]) (C:=noCuts) (by kernel_rfl) tab_ok ⟨o_fbits_Clean,o_fbits_Parts,o_fround_Word,trivial⟩ (fn:=Tryz.f223) (by kernel_rfl) rfl (by kernel_rfl) (by decide) (by kernel_rfl) (F:=fun k x=>fcmp_Scale.f k x.1 x.2.1) (m:=m_fcmp_Scale) (fun k x=>rfl)
  (by exact trivial)
  (fun k ⟨(a0:Int),(a1:Int),_⟩=>by show LeT m_fcmp_Scale (fcmp_Scale.f k a0 a1) _;unfold fcmp_Scale.f;exact go)
end
section
attribute [local irreducible] fsum_Add.f fsum_Sub.f fprod_Mul.f fcmp_Less.f fbits_Kind.f fbits_Nan.f fbits_Inf.f fcmp_Near.f fround_FromInt.f kernel_part.f fcmp_Scale.f
def s_kernel_Exp:FSpec:=⟨[.int .u64],[.int .u64],fun k x=>(kernel_Exp.f k x.1).map fun r=>(r,())⟩
def m_kernel_Exp (r:Int):TT s_kernel_Exp.rs:=(r,())
@[reducible] def q0_kernel_Exp:List Slot:= [.tmp 3 [.ty (.int .i64)], .tmp 6 [.ty (.int .u64)], .tmp 7 [.aptr 7], .arr 7 202 (.int .i64), .tmp 9 [.ty (.int .u64)], .tmp 10 [.ty (.int .i64)]]
def g0_kernel_Exp (k:Nat) (x:TS q0_kernel_Exp):Option (Int):=kernel_Exp.l1 k x.1.1 x.2.1.1 x.2.2.2.1 x.2.2.2.2.1.1 x.2.2.2.2.2.1.1
@[reducible] def q1_kernel_Exp:List Slot:= [.tmp 3 [.ty (.int .i64)], .tmp 6 [.ty (.int .u64)], .tmp 7 [.aptr 7], .arr 7 202 (.int .i64), .tmp 39 [.ty (.int .i64)]]
def g1_kernel_Exp (k:Nat) (x:TS q1_kernel_Exp):Option (Int):=kernel_Exp.l0 k x.1.1 x.2.1.1 x.2.2.2.1 x.2.2.2.2.1.1
def c_kernel_Exp:Cuts (TT s_kernel_Exp.rs):=⟨⟨70,70,[]⟩,lookC [(1,⟨q0_kernel_Exp,fun k x=>(g0_kernel_Exp k x).map m_kernel_Exp⟩),(0,⟨q1_kernel_Exp,fun k x=>(g1_kernel_Exp k x).map m_kernel_Exp⟩)],lookC [],lookC []⟩
theorem o_kernel_Exp:FOk Tryz.prog 150 s_kernel_Exp :=
 fn_of (Bt:=blook [(20,[0,0,3,0,8,24,63,127,255])]) (l:= [(145, .pu s_fsum_Add),(146, .pu s_fsum_Sub),(147, .pu s_fprod_Mul),(180, .pu s_fcmp_Less),(205, .pu s_fbits_Kind),(206, .pu s_fbits_Nan),(209, .pu s_fbits_Inf),(220, .pu s_fcmp_Near),(221, .pu s_fround_FromInt),(222, .pu s_kernel_part),(223, .pu s_fcmp_Scale)]) (C:=c_kernel_Exp) (by kernel_rfl) tab_ok ⟨o_fsum_Add,o_fsum_Sub,o_fprod_Mul,o_fcmp_Less,o_fbits_Kind,o_fbits_Nan,o_fbits_Inf,o_fcmp_Near,o_fround_FromInt,o_kernel_part,o_fcmp_Scale,trivial⟩ (fn:=Tryz.f150) (by kernel_rfl) rfl (by kernel_rfl) (by decide) (by kernel_rfl) (F:=fun k x=>kernel_Exp.f k x.1) (m:=m_kernel_Exp) (fun k x=>rfl)
  (by
   refine And.intro ?_ ?_
   ·refine ob_loop (sl:=q1_kernel_Exp) (F:=g1_kernel_Exp) (fun x=>rfl) fun k ⟨⟨(e:Int),_⟩,⟨(r:Int),_⟩,_,(fs:List Int),⟨(i:Int),_⟩,_⟩=> ?_
    show LeT m_kernel_Exp (kernel_Exp.l0 (k+1) e r fs i) _
    rw [kernel_Exp.l0];exact go
   refine And.intro ?_ ?_
   ·refine ob_loop (sl:=q0_kernel_Exp) (F:=g0_kernel_Exp) (fun x=>rfl) fun k ⟨⟨(e:Int),_⟩,⟨(r:Int),_⟩,_,(fs:List Int),⟨(p:Int),_⟩,⟨(i:Int),_⟩,_⟩=> ?_
    show LeT m_kernel_Exp (kernel_Exp.l1 (k+1) e r fs p i) _
    rw [kernel_Exp.l1];exact go
   exact trivial)
  (fun k ⟨(a0:Int),_⟩=>by show LeT m_kernel_Exp (kernel_Exp.f k a0) _;unfold kernel_Exp.f;exact go)
end
section
attribute [local irreducible] fcmp_Less.f limb_Len.f fbits_Parts.f fbits_Make.f
def s_kernel_split:FSpec:=⟨[.int .u64],[.int .u64, .int .i64],fun k x=>(kernel_split.f k x.1).map fun r=>(r.1,r.2,())⟩
def m_kernel_split (r:Int × Int):TT s_kernel_split.rs:=(r.1,r.2,())
theorem o_kernel_split:FOk Tryz.prog 224 s_kernel_split :=
 fn_of (Bt:=blook []) (l:= [(180, .pu s_fcmp_Less),(195, .pu s_limb_Len),(215, .pu s_fbits_Parts),(251, .pu s_fbits_Make)]) (C:=noCuts) (by kernel_rfl) tab_ok ⟨o_fcmp_Less,o_limb_Len,o_fbits_Parts,o_fbits_Make,trivial⟩ (fn:=Tryz.f224) (by kernel_rfl) rfl (by kernel_rfl) (by decide) (by kernel_rfl) (F:=fun k x=>kernel_split.f k x.1) (m:=m_kernel_split) (fun k x=>rfl)
  (by exact trivial)
  (fun k ⟨(a0:Int),_⟩=>by show LeT m_kernel_split (kernel_split.f k a0) _;unfold kernel_split.f;exact go)
end
section
attribute [local irreducible] fsum_Add.f fsum_Sub.f fprod_Mul.f fprod_Div.f fbits_Kind.f fbits_Nan.f fbits_Inf.f fbits_Neg.f fround_FromInt.f kernel_part.f kernel_split.f
def s_kernel_Log:FSpec:=⟨[.int .u64],[.int .u64],fun k x=>(kernel_Log.f k x.1).map fun r=>(r,())⟩
def m_kernel_Log (r:Int):TT s_kernel_Log.rs:=(r,())
@[reducible] def q0_kernel_Log:List Slot:= [.tmp 0 [.ty (.int .u64)], .tmp 3 [.ty (.int .i64)], .tmp 20 [.ty .bool]]
def g0_kernel_Log (k:Nat) (x:TS q0_kernel_Log):Option (Int):=kernel_Log.j0 k x.1.1 x.2.1.1 x.2.2.1.1
@[reducible] def q1_kernel_Log:List Slot:= [.tmp 5 [.ty (.int .i64)], .tmp 7 [.ty (.int .u64)], .tmp 8 [.ty (.int .u64)], .tmp 9 [.ty (.int .u64)], .tmp 10 [.ty (.int .i64)]]
def g1_kernel_Log (k:Nat) (x:TS q1_kernel_Log):Option (Int):=kernel_Log.l0 k x.1.1 x.2.1.1 x.2.2.1.1 x.2.2.2.1.1 x.2.2.2.2.1.1
def c_kernel_Log:Cuts (TT s_kernel_Log.rs):=⟨⟨81,81,[]⟩,lookC [(0,⟨q1_kernel_Log,fun k x=>(g1_kernel_Log k x).map m_kernel_Log⟩)],lookC [],lookC [(4,⟨q0_kernel_Log,fun k x=>(g0_kernel_Log k x).map m_kernel_Log⟩)]⟩
theorem o_kernel_Log:FOk Tryz.prog 151 s_kernel_Log :=
 fn_of (Bt:=blook []) (l:= [(145, .pu s_fsum_Add),(146, .pu s_fsum_Sub),(147, .pu s_fprod_Mul),(148, .pu s_fprod_Div),(205, .pu s_fbits_Kind),(206, .pu s_fbits_Nan),(209, .pu s_fbits_Inf),(214, .pu s_fbits_Neg),(221, .pu s_fround_FromInt),(222, .pu s_kernel_part),(224, .pu s_kernel_split)]) (C:=c_kernel_Log) (by kernel_rfl) tab_ok ⟨o_fsum_Add,o_fsum_Sub,o_fprod_Mul,o_fprod_Div,o_fbits_Kind,o_fbits_Nan,o_fbits_Inf,o_fbits_Neg,o_fround_FromInt,o_kernel_part,o_kernel_split,trivial⟩ (fn:=Tryz.f151) (by kernel_rfl) rfl (by kernel_rfl) (by decide) (by kernel_rfl) (F:=fun k x=>kernel_Log.f k x.1) (m:=m_kernel_Log) (fun k x=>rfl)
  (by
   refine And.intro ?_ ?_
   ·refine ob_join1 (sl:=q0_kernel_Log) (F:=g0_kernel_Log) (fun x=>rfl) fun k ⟨⟨(x0:Int),_⟩,⟨(x3:Int),_⟩,⟨(x20:Bool),_⟩,_⟩=> ?_
    show LeT m_kernel_Log (kernel_Log.j0 (k+1) x0 x3 x20) _
    rw [kernel_Log.j0];exact go
   refine And.intro ?_ ?_
   ·refine ob_loop (sl:=q1_kernel_Log) (F:=g1_kernel_Log) (fun x=>rfl) fun k ⟨⟨(x5:Int),_⟩,⟨(x7:Int),_⟩,⟨(x8:Int),_⟩,⟨(x9:Int),_⟩,⟨(x10:Int),_⟩,_⟩=> ?_
    show LeT m_kernel_Log (kernel_Log.l0 (k+1) x5 x7 x8 x9 x10) _
    rw [kernel_Log.l0];exact go
   exact trivial)
  (fun k ⟨(a0:Int),_⟩=>by show LeT m_kernel_Log (kernel_Log.f k a0) _;unfold kernel_Log.f;exact go)
end
section
attribute [local irreducible] fbits_Clean.f fround_FromRat.f fbits_Flip.f fsum_Add.f fsum_Sub.f fprod_Mul.f fprod_Div.f fprod_Sqrt.f kernel_Exp.f kernel_Log.f
def s_evals_double:FSpec:=⟨[(.cons (.int .i64) (.cons (.int .i64) (.cons (.int .i64) (.cons .bool (.cons (.row 73 (.int .u64)) (.row 73 (.int .u64))))))),(.row 73 (.int .u64)),(.row 73 (.int .u64))],[.int .u64],fun k x=>(evals_double.f k x.1.1 x.1.2.1 x.1.2.2.1 x.1.2.2.2.1 x.1.2.2.2.2.1 x.1.2.2.2.2.2 x.2.1 x.2.2.1).map fun r=>(r,())⟩
def m_evals_double (r:Int):TT s_evals_double.rs:=(r,())
theorem o_evals_double:FOk Tryz.prog 88 s_evals_double :=
 fn_of (Bt:=blook [(9,[0,0,2,7,15,0,0,64,224,480,1023,2047]),(11,[0,0,2,7,15,0,0,64,224,480,1023,2047]),(13,[0,0,2,7,15,0,0,64,224,480,1023,2047]),(15,[0,0,2,7,15,0,0,64,224,480,1023,2047])]) (l:= [(142, .pu s_fbits_Clean),(143, .pu s_fround_FromRat),(144, .pu s_fbits_Flip),(145, .pu s_fsum_Add),(146, .pu s_fsum_Sub),(147, .pu s_fprod_Mul),(148, .pu s_fprod_Div),(149, .pu s_fprod_Sqrt),(150, .pu s_kernel_Exp),(151, .pu s_kernel_Log)]) (C:=noCuts) (by kernel_rfl) tab_ok ⟨o_fbits_Clean,o_fround_FromRat,o_fbits_Flip,o_fsum_Add,o_fsum_Sub,o_fprod_Mul,o_fprod_Div,o_fprod_Sqrt,o_kernel_Exp,o_kernel_Log,trivial⟩ (fn:=Tryz.f88) (by kernel_rfl) rfl (by kernel_rfl) (by decide) (by kernel_rfl) (F:=fun k x=>evals_double.f k x.1.1 x.1.2.1 x.1.2.2.1 x.1.2.2.2.1 x.1.2.2.2.2.1 x.1.2.2.2.2.2 x.2.1 x.2.2.1) (m:=m_evals_double) (fun k x=>rfl)
  (by exact trivial)
  (fun k ⟨(a0:Int × Int × Int × Bool × (List Int) × List Int),(a1:List Int),(a2:List Int),_⟩=>by show LeT m_evals_double (evals_double.f k a0.1 a0.2.1 a0.2.2.1 a0.2.2.2.1 a0.2.2.2.2.1 a0.2.2.2.2.2 a1 a2) _;unfold evals_double.f;exact go)
end
section
attribute [local irreducible] line_Right.f evals_double.f
def s_evals_Float:FSpec:=⟨[(.row 93 (.cons (.int .i64) (.cons (.int .i64) (.cons (.int .i64) (.cons .bool (.cons (.row 73 (.int .u64)) (.row 73 (.int .u64)))))))),(.row 73 (.int .u64))],[(.row 73 (.int .u64)), .int .i64, .int .i64],fun k x=>(evals_Float.f k x.1 x.2.1).map fun r=>(r.1,r.2.1,r.2.2,())⟩
def m_evals_Float (r:List Int × Int × Int):TT s_evals_Float.rs:=(r.1,r.2.1,r.2.2,())
@[reducible] def q0_evals_Float:List Slot:= [.tmp 1 [.ty (.row 73 (.int .u64))], .tmp 7 [.own .mine 7 73 (.int .u64)], .tmp 13 [.ty (.row 93 (.cons (.int .i64) (.cons (.int .i64) (.cons (.int .i64) (.cons .bool (.cons (.row 73 (.int .u64)) (.row 73 (.int .u64))))))))], .tmp 14 [.ty (.int .i64)], .tmp 15 [.ty (.int .i64)]]
def g0_evals_Float (k:Nat) (x:TS q0_evals_Float):Option (List Int × Int × Int):=evals_Float.l0 k x.1.1 x.2.1.1 x.2.2.1.1 x.2.2.2.1.1 x.2.2.2.2.1.1
@[reducible] def q1_evals_Float:List Slot:= [.tmp 1 [.ty (.row 73 (.int .u64))], .tmp 7 [.own .mine 7 73 (.int .u64)], .tmp 9 [.ptr 9 0], .tmp 13 [.ty (.row 93 (.cons (.int .i64) (.cons (.int .i64) (.cons (.int .i64) (.cons .bool (.cons (.row 73 (.int .u64)) (.row 73 (.int .u64))))))))], .tmp 14 [.ty (.int .i64)], .tmp 15 [.ty (.int .i64)], .blk 9 .mine 93 [.ty (.int .i64), .ty (.int .i64), .ty (.int .i64), .ty .bool, .ty (.row 73 (.int .u64)), .ty (.row 73 (.int .u64))]]
def g1_evals_Float (k:Nat) (x:TS q1_evals_Float):Option (List Int × Int × Int):=evals_Float.j9 k x.1.1 x.2.1.1 x.2.2.2.1.1 x.2.2.2.2.1.1 x.2.2.2.2.2.1.1 x.2.2.2.2.2.2.1.1 x.2.2.2.2.2.2.1.2.1 x.2.2.2.2.2.2.1.2.2.1 x.2.2.2.2.2.2.1.2.2.2.1 x.2.2.2.2.2.2.1.2.2.2.2.1 x.2.2.2.2.2.2.1.2.2.2.2.2.1
def c_evals_Float:Cuts (TT s_evals_Float.rs):=⟨⟨40,41,[]⟩,lookC [(0,⟨q0_evals_Float,fun k x=>(g0_evals_Float k x).map m_evals_Float⟩)],lookC [(9,⟨q1_evals_Float,fun k x=>(g1_evals_Float k x).map m_evals_Float⟩)],lookC []⟩
theorem o_evals_Float:FOk Tryz.prog 32 s_evals_Float :=
 fn_of (Bt:=blook []) (l:= [(83, .pu s_line_Right),(88, .pu s_evals_double)]) (C:=c_evals_Float) (by kernel_rfl) tab_ok ⟨o_line_Right,o_evals_double,trivial⟩ (fn:=Tryz.f32) (by kernel_rfl) rfl (by kernel_rfl) (by decide) (by kernel_rfl) (F:=fun k x=>evals_Float.f k x.1 x.2.1) (m:=m_evals_Float) (fun k x=>rfl)
  (by
   refine And.intro ?_ ?_
   ·refine ob_loop (sl:=q0_evals_Float) (F:=g0_evals_Float) (fun x=>rfl) fun k ⟨⟨(x1:List Int),_⟩,⟨(x7:List Int),_⟩,⟨(x13:List (Int × Int × Int × Bool × (List Int) × List Int)),_⟩,⟨(x14:Int),_⟩,⟨(x15:Int),_⟩,_⟩=> ?_
    show LeT m_evals_Float (evals_Float.l0 (k+1) x1 x7 x13 x14 x15) _
    rw [evals_Float.l0];exact go
   refine And.intro ?_ ?_
   ·refine ob_join1 (sl:=q1_evals_Float) (F:=g1_evals_Float) (fun x=>rfl) fun k ⟨⟨(x1:List Int),_⟩,⟨(x7:List Int),_⟩,_,⟨(x13:List (Int × Int × Int × Bool × (List Int) × List Int)),_⟩,⟨(x14:Int),_⟩,⟨(x15:Int),_⟩,⟨(v9_0:Int),(v9_1:Int),(v9_2:Int),(v9_3:Bool),(v9_4:List Int),(v9_5:List Int),_⟩,_⟩=> ?_
    show LeT m_evals_Float (evals_Float.j9 (k+1) x1 x7 x13 x14 x15 v9_0 v9_1 v9_2 v9_3 v9_4 v9_5) _
    rw [evals_Float.j9];exact go
   exact trivial)
  (fun k ⟨(a0:List (Int × Int × Int × Bool × (List Int) × List Int)),(a1:List Int),_⟩=>by show LeT m_evals_Float (evals_Float.f k a0 a1) _;unfold evals_Float.f;exact go)
end
section
def s_gradineplain_Long:FSpec:=⟨[(.cons .bool (.cons (.row 73 (.int .u64)) (.row 73 (.int .u64)))), .int .i64],[.bool],fun _ x=>(gradineplain_Long.f x.1.1 x.1.2.1 x.1.2.2 x.2.1).map fun r=>(r,())⟩
def m_gradineplain_Long (r:Bool):TT s_gradineplain_Long.rs:=(r,())
theorem o_gradineplain_Long:FOk Tryz.prog 60 s_gradineplain_Long :=
 fn_of (Bt:=blook []) (l:= []) (C:=noCuts) (by kernel_rfl) tab_ok trivial (fn:=Tryz.f60) (by kernel_rfl) rfl (by kernel_rfl) (by decide) (by kernel_rfl) (F:=fun k x=>gradineplain_Long.f x.1.1 x.1.2.1 x.1.2.2 x.2.1) (m:=m_gradineplain_Long) (fun k x=>rfl)
  (by exact trivial)
  (fun k ⟨(a0:Bool × List Int × List Int),(a1:Int),_⟩=>by show LeT m_gradineplain_Long (gradineplain_Long.f a0.1 a0.2.1 a0.2.2 a1) _;unfold gradineplain_Long.f;exact go)
end
section
attribute [local irreducible] gradineplain_Long.f
def s_gradinelaw15_Many:FSpec:=⟨[(.row 93 (.cons (.int .i64) (.cons (.int .i64) (.cons (.int .i64) (.cons .bool (.cons (.row 73 (.int .u64)) (.row 73 (.int .u64))))))))],[.bool],fun k x=>(gradinelaw15_Many.f k x.1).map fun r=>(r,())⟩
def m_gradinelaw15_Many (r:Bool):TT s_gradinelaw15_Many.rs:=(r,())
@[reducible] def q0_gradinelaw15_Many:List Slot:= [.tmp 0 [.ty (.row 93 (.cons (.int .i64) (.cons (.int .i64) (.cons (.int .i64) (.cons .bool (.cons (.row 73 (.int .u64)) (.row 73 (.int .u64))))))))], .tmp 5 [.ty (.int .i64)], .tmp 6 [.ty (.int .i64)]]
def g0_gradinelaw15_Many (k:Nat) (x:TS q0_gradinelaw15_Many):Option (Bool):=gradinelaw15_Many.l0 k x.1.1 x.2.1.1 x.2.2.1.1
def c_gradinelaw15_Many:Cuts (TT s_gradinelaw15_Many.rs):=⟨⟨19,19,[]⟩,lookC [(0,⟨q0_gradinelaw15_Many,fun k x=>(g0_gradinelaw15_Many k x).map m_gradinelaw15_Many⟩)],lookC [],lookC []⟩
theorem o_gradinelaw15_Many:FOk Tryz.prog 31 s_gradinelaw15_Many :=
 fn_of (Bt:=blook []) (l:= [(60, .pu s_gradineplain_Long)]) (C:=c_gradinelaw15_Many) (by kernel_rfl) tab_ok ⟨o_gradineplain_Long,trivial⟩ (fn:=Tryz.f31) (by kernel_rfl) rfl (by kernel_rfl) (by decide) (by kernel_rfl) (F:=fun k x=>gradinelaw15_Many.f k x.1) (m:=m_gradinelaw15_Many) (fun k x=>rfl)
  (by
   refine And.intro ?_ ?_
   ·refine ob_loop (sl:=q0_gradinelaw15_Many) (F:=g0_gradinelaw15_Many) (fun x=>rfl) fun k ⟨⟨(x0:List (Int × Int × Int × Bool × (List Int) × List Int)),_⟩,⟨(x5:Int),_⟩,⟨(x6:Int),_⟩,_⟩=> ?_
    show LeT m_gradinelaw15_Many (gradinelaw15_Many.l0 (k+1) x0 x5 x6) _
    rw [gradinelaw15_Many.l0];exact go
   exact trivial)
  (fun k ⟨(a0:List (Int × Int × Int × Bool × (List Int) × List Int)),_⟩=>by show LeT m_gradinelaw15_Many (gradinelaw15_Many.f k a0) _;unfold gradinelaw15_Many.f;exact go)
end
section
def s_gr02_at:FSpec:=⟨[(.row 73 (.int .u64)), .int .i64],[.int .u64],fun _ x=>(gr02_at.f x.1 x.2.1).map fun r=>(r,())⟩
def m_gr02_at (r:Int):TT s_gr02_at.rs:=(r,())
theorem o_gr02_at:FOk Tryz.prog 130 s_gr02_at :=
 fn_of (Bt:=blook []) (l:= []) (C:=noCuts) (by kernel_rfl) tab_ok trivial (fn:=Tryz.f130) (by kernel_rfl) rfl (by kernel_rfl) (by decide) (by kernel_rfl) (F:=fun k x=>gr02_at.f x.1 x.2.1) (m:=m_gr02_at) (fun k x=>rfl)
  (by exact trivial)
  (fun k ⟨(a0:List Int),(a1:Int),_⟩=>by show LeT m_gr02_at (gr02_at.f a0 a1) _;unfold gr02_at.f;exact go)
end
section
attribute [local irreducible] gr02_at.f
def s_gr02_Cmp:FSpec:=⟨[(.row 73 (.int .u64)),(.row 73 (.int .u64))],[.int .i64],fun k x=>(gr02_Cmp.f k x.1 x.2.1).map fun r=>(r,())⟩
def m_gr02_Cmp (r:Int):TT s_gr02_Cmp.rs:=(r,())
@[reducible] def q0_gr02_Cmp:List Slot:= [.tmp 0 [.ty (.row 73 (.int .u64))], .tmp 1 [.ty (.row 73 (.int .u64))], .tmp 6 [.ty (.int .i64)]]
def g0_gr02_Cmp (k:Nat) (x:TS q0_gr02_Cmp):Option (Int):=gr02_Cmp.l0 k x.1.1 x.2.1.1 x.2.2.1.1
def c_gr02_Cmp:Cuts (TT s_gr02_Cmp.rs):=⟨⟨32,32,[]⟩,lookC [(0,⟨q0_gr02_Cmp,fun k x=>(g0_gr02_Cmp k x).map m_gr02_Cmp⟩)],lookC [],lookC []⟩
theorem o_gr02_Cmp:FOk Tryz.prog 75 s_gr02_Cmp :=
 fn_of (Bt:=blook []) (l:= [(130, .pu s_gr02_at)]) (C:=c_gr02_Cmp) (by kernel_rfl) tab_ok ⟨o_gr02_at,trivial⟩ (fn:=Tryz.f75) (by kernel_rfl) rfl (by kernel_rfl) (by decide) (by kernel_rfl) (F:=fun k x=>gr02_Cmp.f k x.1 x.2.1) (m:=m_gr02_Cmp) (fun k x=>rfl)
  (by
   refine And.intro ?_ ?_
   ·refine ob_loop (sl:=q0_gr02_Cmp) (F:=g0_gr02_Cmp) (fun x=>rfl) fun k ⟨⟨(x0:List Int),_⟩,⟨(x1:List Int),_⟩,⟨(x6:Int),_⟩,_⟩=> ?_
    show LeT m_gr02_Cmp (gr02_Cmp.l0 (k+1) x0 x1 x6) _
    rw [gr02_Cmp.l0];exact go
   exact trivial)
  (fun k ⟨(a0:List Int),(a1:List Int),_⟩=>by show LeT m_gr02_Cmp (gr02_Cmp.f k a0 a1) _;unfold gr02_Cmp.f;exact go)
end
section
def s_gr02_Size:FSpec:=⟨[(.row 73 (.int .u64))],[.int .i64],fun k x=>(gr02_Size.f k x.1).map fun r=>(r,())⟩
def m_gr02_Size (r:Int):TT s_gr02_Size.rs:=(r,())
@[reducible] def q0_gr02_Size:List Slot:= [.tmp 0 [.ty (.row 73 (.int .u64))], .tmp 3 [.ty (.int .i64)]]
def g0_gr02_Size (k:Nat) (x:TS q0_gr02_Size):Option (Int):=gr02_Size.l0 k x.1.1 x.2.1.1
def c_gr02_Size:Cuts (TT s_gr02_Size.rs):=⟨⟨19,19,[]⟩,lookC [(0,⟨q0_gr02_Size,fun k x=>(g0_gr02_Size k x).map m_gr02_Size⟩)],lookC [],lookC []⟩
theorem o_gr02_Size:FOk Tryz.prog 126 s_gr02_Size :=
 fn_of (Bt:=blook []) (l:= []) (C:=c_gr02_Size) (by kernel_rfl) tab_ok trivial (fn:=Tryz.f126) (by kernel_rfl) rfl (by kernel_rfl) (by decide) (by kernel_rfl) (F:=fun k x=>gr02_Size.f k x.1) (m:=m_gr02_Size) (fun k x=>rfl)
  (by
   refine And.intro ?_ ?_
   ·refine ob_loop (sl:=q0_gr02_Size) (F:=g0_gr02_Size) (fun x=>rfl) fun k ⟨⟨(x0:List Int),_⟩,⟨(x3:Int),_⟩,_⟩=> ?_
    show LeT m_gr02_Size (gr02_Size.l0 (k+1) x0 x3) _
    rw [gr02_Size.l0];exact go
   exact trivial)
  (fun k ⟨(a0:List Int),_⟩=>by show LeT m_gr02_Size (gr02_Size.f k a0) _;unfold gr02_Size.f;exact go)
end
section
attribute [local irreducible] gr02_Size.f
def s_gr02_Right:FSpec:=⟨[(.row 73 (.int .u64))],[.bool],fun k x=>(gr02_Right.f k x.1).map fun r=>(r,())⟩
def m_gr02_Right (r:Bool):TT s_gr02_Right.rs:=(r,())
theorem o_gr02_Right:FOk Tryz.prog 119 s_gr02_Right :=
 fn_of (Bt:=blook []) (l:= [(126, .pu s_gr02_Size)]) (C:=noCuts) (by kernel_rfl) tab_ok ⟨o_gr02_Size,trivial⟩ (fn:=Tryz.f119) (by kernel_rfl) rfl (by kernel_rfl) (by decide) (by kernel_rfl) (F:=fun k x=>gr02_Right.f k x.1) (m:=m_gr02_Right) (fun k x=>rfl)
  (by exact trivial)
  (fun k ⟨(a0:List Int),_⟩=>by show LeT m_gr02_Right (gr02_Right.f k a0) _;unfold gr02_Right.f;exact go)
end
section
attribute [local irreducible] gr02_Size.f
def s_gr02_Trim:FSpec:=⟨[(.row 73 (.int .u64))],[(.row 73 (.int .u64))],fun k x=>(gr02_Trim.f k x.1).map fun r=>(r,())⟩
def m_gr02_Trim (r:List Int):TT s_gr02_Trim.rs:=(r,())
@[reducible] def q0_gr02_Trim:List Slot:= [.tmp 0 [.ty (.row 73 (.int .u64))], .tmp 3 [.own .mine 3 73 (.int .u64)], .tmp 6 [.ty (.int .i64)], .tmp 7 [.ty (.int .i64)]]
def g0_gr02_Trim (k:Nat) (x:TS q0_gr02_Trim):Option (List Int):=gr02_Trim.l0 k x.1.1 x.2.1.1 x.2.2.1.1 x.2.2.2.1.1
def c_gr02_Trim:Cuts (TT s_gr02_Trim.rs):=⟨⟨19,19,[]⟩,lookC [(0,⟨q0_gr02_Trim,fun k x=>(g0_gr02_Trim k x).map m_gr02_Trim⟩)],lookC [],lookC []⟩
theorem o_gr02_Trim:FOk Tryz.prog 188 s_gr02_Trim :=
 fn_of (Bt:=blook []) (l:= [(126, .pu s_gr02_Size)]) (C:=c_gr02_Trim) (by kernel_rfl) tab_ok ⟨o_gr02_Size,trivial⟩ (fn:=Tryz.f188) (by kernel_rfl) rfl (by kernel_rfl) (by decide) (by kernel_rfl) (F:=fun k x=>gr02_Trim.f k x.1) (m:=m_gr02_Trim) (fun k x=>rfl)
  (by
   refine And.intro ?_ ?_
   ·refine ob_loop (sl:=q0_gr02_Trim) (F:=g0_gr02_Trim) (fun x=>rfl) fun k ⟨⟨(x0:List Int),_⟩,⟨(x3:List Int),_⟩,⟨(x6:Int),_⟩,⟨(x7:Int),_⟩,_⟩=> ?_
    show LeT m_gr02_Trim (gr02_Trim.l0 (k+1) x0 x3 x6 x7) _
    rw [gr02_Trim.l0];exact go
   exact trivial)
  (fun k ⟨(a0:List Int),_⟩=>by show LeT m_gr02_Trim (gr02_Trim.f k a0) _;unfold gr02_Trim.f;exact go)
end
section
attribute [local irreducible] gr02_Trim.f
def s_gr02_Halves:FSpec:=⟨[(.row 73 (.int .u64))],[(.row 73 (.int .u64))],fun k x=>(gr02_Halves.f k x.1).map fun r=>(r,())⟩
def m_gr02_Halves (r:List Int):TT s_gr02_Halves.rs:=(r,())
@[reducible] def q0_gr02_Halves:List Slot:= [.tmp 0 [.ty (.row 73 (.int .u64))], .tmp 3 [.own .mine 3 73 (.int .u64)], .tmp 6 [.ty (.int .i64)], .tmp 7 [.ty (.int .i64)]]
def g0_gr02_Halves (k:Nat) (x:TS q0_gr02_Halves):Option (List Int):=gr02_Halves.l0 k x.1.1 x.2.1.1 x.2.2.1.1 x.2.2.2.1.1
def c_gr02_Halves:Cuts (TT s_gr02_Halves.rs):=⟨⟨29,29,[]⟩,lookC [(0,⟨q0_gr02_Halves,fun k x=>(g0_gr02_Halves k x).map m_gr02_Halves⟩)],lookC [],lookC []⟩
theorem o_gr02_Halves:FOk Tryz.prog 128 s_gr02_Halves :=
 fn_of (Bt:=blook []) (l:= [(188, .pu s_gr02_Trim)]) (C:=c_gr02_Halves) (by kernel_rfl) tab_ok ⟨o_gr02_Trim,trivial⟩ (fn:=Tryz.f128) (by kernel_rfl) rfl (by kernel_rfl) (by decide) (by kernel_rfl) (F:=fun k x=>gr02_Halves.f k x.1) (m:=m_gr02_Halves) (fun k x=>rfl)
  (by
   refine And.intro ?_ ?_
   ·refine ob_loop (sl:=q0_gr02_Halves) (F:=g0_gr02_Halves) (fun x=>rfl) fun k ⟨⟨(x0:List Int),_⟩,⟨(x3:List Int),_⟩,⟨(x6:Int),_⟩,⟨(x7:Int),_⟩,_⟩=> ?_
    show LeT m_gr02_Halves (gr02_Halves.l0 (k+1) x0 x3 x6 x7) _
    rw [gr02_Halves.l0];exact go
   exact trivial)
  (fun k ⟨(a0:List Int),_⟩=>by show LeT m_gr02_Halves (gr02_Halves.f k a0) _;unfold gr02_Halves.f;exact go)
end
end Go.Proofs.YtjocbnjpjihpnaaGreat.A
