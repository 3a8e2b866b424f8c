/- Functions that come to what their texts say. -/
import Derived.Test.YtjocbnjpjihpnaaProg
import Derived.Test.YtjocbnjpjihpnaaWWc
import Derived.KernelRfl
import Derived.Test.YtjocbnjpjihpnaaBfbits
import Derived.Test.YtjocbnjpjihpnaaBlimb
import Derived.Test.YtjocbnjpjihpnaaBfcmp
import Derived.Test.YtjocbnjpjihpnaaBfround
import Derived.Test.YtjocbnjpjihpnaaBfprod
import Derived.Test.YtjocbnjpjihpnaaBfsum
import Derived.Test.YtjocbnjpjihpnaaBkernel
import Derived.Test.YtjocbnjpjihpnaaBgradineref09
import Derived.Test.YtjocbnjpjihpnaaBgradineref13
import Derived.Test.YtjocbnjpjihpnaaBgradineref02
import Derived.Test.YtjocbnjpjihpnaaBgradineref05
import Derived.Test.YtjocbnjpjihpnaaBgradineref01
import Derived.Test.YtjocbnjpjihpnaaBgradineref04
import Derived.Test.YtjocbnjpjihpnaaBgradineref07
import Derived.Test.YtjocbnjpjihpnaaBgradineref10
import Derived.Test.YtjocbnjpjihpnaaBgradineref03
import Derived.Test.YtjocbnjpjihpnaaBgradineref12
import Derived.Test.YtjocbnjpjihpnaaBgradineref11
import Derived.Test.YtjocbnjpjihpnaaBgradineref14
import Derived.Test.YtjocbnjpjihpnaaFgradinelaw14same
namespace Go.Proofs.Ytjocbnjpjihpnaa.A
open Go.RowKit Go.Proofs.Ytjocbnjpjihpnaa.P Go.Proofs.YtjocbnjpjihpnaaW.PrintWords Go.Proofs.YtjocbnjpjihpnaaW.PrintLast Go.Proofs.YtjocbnjpjihpnaaW.PrintMore Go.Proofs.YtjocbnjpjihpnaaW.Abs
set_option linter.unusedVariables false
set_option linter.unusedSimpArgs false
set_option maxRecDepth 100000
set_option maxHeartbeats 4000000
end Go.Proofs.Ytjocbnjpjihpnaa.A
namespace Go.Proofs.Ytjocbnjpjihpnaa.A
open Go.Proofs.YtjocbnjpjihpnaaW.Abs
def tab : Tab := [(2, ⟨1, 8, [.ro (.int .i64) (0 : Int)], .int .i64, some (.int .i64)⟩),
 (3, ⟨1, 8, [.ro (.int .i64) (0 : Int)], .int .i64, some (.int .i64)⟩),
 (4, ⟨1, 1, [.ro .bool false], .bool, some .bool⟩),
 (5, ⟨1, 1, [.ro (.int .u8) (0 : Int)], .int .u8, some (.int .u8)⟩),
 (9, ⟨1, 16, [.ro .str (⟨#[]⟩ : ByteArray)], .str, some .str⟩),
 (13, ⟨2, 24, [.ro .str (⟨#[]⟩ : ByteArray), .ro (.int .u64) (0 : Int)], .struct [(0, 1), (1, 1)], some (.cons .str (.int .u64))⟩),
 (21, ⟨1, 4, [.ro (.int .i32) (0 : Int)], .int .i32, some (.int .i32)⟩),
 (22, ⟨1, 8, [.ro (.int .u64) (0 : Int)], .int .u64, some (.int .u64)⟩),
 (28, ⟨1, 24, [.nils], .slice 22, some (.row 22 (.int .u64))⟩),
 (29, ⟨3, 56, [.ro .bool false, .nils, .nils], .struct [(0, 1), (1, 1), (2, 1)], some (.cons .bool (.cons (.row 22 (.int .u64)) (.row 22 (.int .u64))))⟩),
 (30, ⟨3, 56, [.ro .bool false, .nils, .nils], .struct [(0, 1), (1, 1), (2, 1)], some (.cons .bool (.cons (.row 22 (.int .u64)) (.row 22 (.int .u64))))⟩),
 (39, ⟨1, 8, [.ro (.int .i64) (0 : Int)], .int .i64, some (.int .i64)⟩),
 (43, ⟨1, 24, [.nils], .slice 85, some (.row 85 (.cons (.int .i64) (.cons (.int .i64) (.cons (.int .i64) (.cons .bool (.cons (.row 22 (.int .u64)) (.row 22 (.int .u64))))))))⟩),
 (44, ⟨1, 24, [.nils], .slice 30, some (.row 30 (.cons .bool (.cons (.row 22 (.int .u64)) (.row 22 (.int .u64)))))⟩),
 (45, ⟨4, 96, [.nils, .nils, .nils, .nils], .struct [(0, 1), (1, 1), (2, 1), (3, 1)], some (.cons (.row 85 (.cons (.int .i64) (.cons (.int .i64) (.cons (.int .i64) (.cons .bool (.cons (.row 22 (.int .u64)) (.row 22 (.int .u64)))))))) (.cons (.row 30 (.cons .bool (.cons (.row 22 (.int .u64)) (.row 22 (.int .u64))))) (.cons (.row 30 (.cons .bool (.cons (.row 22 (.int .u64)) (.row 22 (.int .u64))))) (.row 30 (.cons .bool (.cons (.row 22 (.int .u64)) (.row 22 (.int .u64))))))))⟩),
 (46, ⟨4, 96, [.nils, .nils, .nils, .nils], .struct [(0, 1), (1, 1), (2, 1), (3, 1)], some (.cons (.row 85 (.cons (.int .i64) (.cons (.int .i64) (.cons (.int .i64) (.cons .bool (.cons (.row 22 (.int .u64)) (.row 22 (.int .u64)))))))) (.cons (.row 30 (.cons .bool (.cons (.row 22 (.int .u64)) (.row 22 (.int .u64))))) (.cons (.row 30 (.cons .bool (.cons (.row 22 (.int .u64)) (.row 22 (.int .u64))))) (.row 30 (.cons .bool (.cons (.row 22 (.int .u64)) (.row 22 (.int .u64))))))))⟩),
 (47, ⟨1, 24, [.nils], .slice 3, some (.row 3 (.int .i64))⟩),
 (62, ⟨14, 112, [.ro (.int .i64) (0 : Int), .ro (.int .i64) (0 : Int), .ro (.int .i64) (0 : Int), .ro (.int .i64) (0 : Int), .ro (.int .i64) (0 : Int), .ro (.int .i64) (0 : Int), .ro (.int .i64) (0 : Int), .ro (.int .i64) (0 : Int), .ro (.int .i64) (0 : Int), .ro (.int .i64) (0 : Int), .ro (.int .i64) (0 : Int), .ro (.int .i64) (0 : Int), .ro (.int .i64) (0 : Int), .ro (.int .i64) (0 : Int)], .arr 14 3, none⟩),
 (67, ⟨1, 8, [.ro (.int .u64) (0 : Int)], .int .u64, some (.int .u64)⟩),
 (84, ⟨6, 80, [.ro (.int .i64) (0 : Int), .ro (.int .i64) (0 : Int), .ro (.int .i64) (0 : Int), .ro .bool false, .nils, .nils], .struct [(0, 1), (1, 1), (2, 1), (3, 3)], some (.cons (.int .i64) (.cons (.int .i64) (.cons (.int .i64) (.cons .bool (.cons (.row 22 (.int .u64)) (.row 22 (.int .u64)))))))⟩),
 (85, ⟨6, 80, [.ro (.int .i64) (0 : Int), .ro (.int .i64) (0 : Int), .ro (.int .i64) (0 : Int), .ro .bool false, .nils, .nils], .struct [(0, 1), (1, 1), (2, 1), (3, 3)], some (.cons (.int .i64) (.cons (.int .i64) (.cons (.int .i64) (.cons .bool (.cons (.row 22 (.int .u64)) (.row 22 (.int .u64)))))))⟩),
 (90, ⟨1, 8, [.nilp], .ptr, none⟩),
 (92, ⟨3, 72, [.nils, .nils, .nils], .struct [(0, 1), (1, 1), (2, 1)], some (.cons (.row 30 (.cons .bool (.cons (.row 22 (.int .u64)) (.row 22 (.int .u64))))) (.cons (.row 30 (.cons .bool (.cons (.row 22 (.int .u64)) (.row 22 (.int .u64))))) (.row 30 (.cons .bool (.cons (.row 22 (.int .u64)) (.row 22 (.int .u64)))))))⟩),
 (93, ⟨3, 72, [.nils, .nils, .nils], .struct [(0, 1), (1, 1), (2, 1)], some (.cons (.row 30 (.cons .bool (.cons (.row 22 (.int .u64)) (.row 22 (.int .u64))))) (.cons (.row 30 (.cons .bool (.cons (.row 22 (.int .u64)) (.row 22 (.int .u64))))) (.row 30 (.cons .bool (.cons (.row 22 (.int .u64)) (.row 22 (.int .u64)))))))⟩),
 (106, ⟨3, 24, [.ro .bool false, .ro (.int .u64) (0 : Int), .ro (.int .i64) (0 : Int)], .struct [(0, 1), (1, 1), (2, 1)], some (.cons .bool (.cons (.int .u64) (.int .i64)))⟩),
 (107, ⟨3, 24, [.ro .bool false, .ro (.int .u64) (0 : Int), .ro (.int .i64) (0 : Int)], .struct [(0, 1), (1, 1), (2, 1)], some (.cons .bool (.cons (.int .u64) (.int .i64)))⟩),
 (124, ⟨1, 8, [.nilp], .ptr, none⟩),
 (125, ⟨4, 80, [.nils, .nils, .nils, .ro (.int .i64) (0 : Int)], .struct [(0, 1), (1, 1), (2, 1), (3, 1)], some (.cons (.row 30 (.cons .bool (.cons (.row 22 (.int .u64)) (.row 22 (.int .u64))))) (.cons (.row 30 (.cons .bool (.cons (.row 22 (.int .u64)) (.row 22 (.int .u64))))) (.cons (.row 30 (.cons .bool (.cons (.row 22 (.int .u64)) (.row 22 (.int .u64))))) (.int .i64))))⟩),
 (126, ⟨4, 80, [.nils, .nils, .nils, .ro (.int .i64) (0 : Int)], .struct [(0, 1), (1, 1), (2, 1), (3, 1)], some (.cons (.row 30 (.cons .bool (.cons (.row 22 (.int .u64)) (.row 22 (.int .u64))))) (.cons (.row 30 (.cons .bool (.cons (.row 22 (.int .u64)) (.row 22 (.int .u64))))) (.cons (.row 30 (.cons .bool (.cons (.row 22 (.int .u64)) (.row 22 (.int .u64))))) (.int .i64))))⟩),
 (129, ⟨1, 8, [.nilp], .ptr, none⟩),
 (150, ⟨1, 4, [.ro (.int .u32) (0 : Int)], .int .u32, some (.int .u32)⟩),
 (154, ⟨1, 8, [.nilp], .ptr, none⟩)]
theorem tab_ok : Tab.ok Try.prog tab = true := by kernel_rfl
end Go.Proofs.Ytjocbnjpjihpnaa.A
namespace Go.Proofs.Ytjocbnjpjihpnaa.A
open Go.RowKit Go.Proofs.Ytjocbnjpjihpnaa.P Go.Proofs.YtjocbnjpjihpnaaW.PrintWords Go.Proofs.YtjocbnjpjihpnaaW.PrintLast Go.Proofs.YtjocbnjpjihpnaaW.PrintMore Go.Proofs.YtjocbnjpjihpnaaW.Abs
set_option linter.unusedVariables false
set_option linter.unusedSimpArgs false
set_option maxRecDepth 100000
set_option maxHeartbeats 4000000
section
def s_fbits_exponent : FSpec := ⟨[.int .u64], [.int .i64], fun _ x => (fbits_exponent.f x.1).map fun r => (r, ())⟩
def m_fbits_exponent (r : Int) : TT s_fbits_exponent.rs := (r, ())
theorem o_fbits_exponent : FOk Try.prog 103 s_fbits_exponent :=
 fn_of (Bt := blook []) (l := []) (C := noCuts) (by kernel_rfl) tab_ok trivial (fn := Try.f103) (by kernel_rfl) rfl (by kernel_rfl) (by decide) (by kernel_rfl) (F := fun k x => fbits_exponent.f x.1) (m := m_fbits_exponent) (fun k x => rfl)
  (by exact trivial)
  (fun k ⟨(a0 : Int), _⟩ => by show LeT m_fbits_exponent (fbits_exponent.f a0) _; unfold fbits_exponent.f; exact go)
end
section
attribute [local irreducible] fbits_exponent.f
def s_fbits_Kind : FSpec := ⟨[.int .u64], [.int .i64], fun _ x => (fbits_Kind.f x.1).map fun r => (r, ())⟩
def m_fbits_Kind (r : Int) : TT s_fbits_Kind.rs := (r, ())
theorem o_fbits_Kind : FOk Try.prog 36 s_fbits_Kind :=
 fn_of (Bt := blook []) (l := [(103, .pu s_fbits_exponent)]) (C := noCuts) (by kernel_rfl) tab_ok ⟨o_fbits_exponent, trivial⟩ (fn := Try.f36) (by kernel_rfl) rfl (by kernel_rfl) (by decide) (by kernel_rfl) (F := fun k x => fbits_Kind.f x.1) (m := m_fbits_Kind) (fun k x => rfl)
  (by exact trivial)
  (fun k ⟨(a0 : Int), _⟩ => by show LeT m_fbits_Kind (fbits_Kind.f a0) _; unfold fbits_Kind.f; exact go)
end
section
def s_fbits_Nan : FSpec := ⟨[], [.int .u64], fun _ _ => (fbits_Nan.f).map fun r => (r, ())⟩
def m_fbits_Nan (r : Int) : TT s_fbits_Nan.rs := (r, ())
theorem o_fbits_Nan : FOk Try.prog 37 s_fbits_Nan :=
 fn_of (Bt := blook []) (l := []) (C := noCuts) (by kernel_rfl) tab_ok trivial (fn := Try.f37) (by kernel_rfl) rfl (by kernel_rfl) (by decide) (by kernel_rfl) (F := fun k x => fbits_Nan.f) (m := m_fbits_Nan) (fun k x => rfl)
  (by exact trivial)
  (fun k x => by show LeT m_fbits_Nan (fbits_Nan.f) _; unfold fbits_Nan.f; exact go)
end
section
attribute [local irreducible] fbits_Kind.f fbits_Nan.f
def s_fbits_Clean : FSpec := ⟨[.int .u64], [.int .u64], fun _ x => (fbits_Clean.f x.1).map fun r => (r, ())⟩
def m_fbits_Clean (r : Int) : TT s_fbits_Clean.rs := (r, ())
theorem o_fbits_Clean : FOk Try.prog 112 s_fbits_Clean :=
 fn_of (Bt := blook []) (l := [(36, .pu s_fbits_Kind), (37, .pu s_fbits_Nan)]) (C := noCuts) (by kernel_rfl) tab_ok ⟨o_fbits_Kind, o_fbits_Nan, trivial⟩ (fn := Try.f112) (by kernel_rfl) rfl (by kernel_rfl) (by decide) (by kernel_rfl) (F := fun k x => fbits_Clean.f x.1) (m := m_fbits_Clean) (fun k x => rfl)
  (by exact trivial)
  (fun k ⟨(a0 : Int), _⟩ => by show LeT m_fbits_Clean (fbits_Clean.f a0) _; unfold fbits_Clean.f; exact go)
end
section
attribute [local irreducible] fbits_Kind.f fbits_Nan.f
def s_fbits_Flip : FSpec := ⟨[.int .u64], [.int .u64], fun _ x => (fbits_Flip.f x.1).map fun r => (r, ())⟩
def m_fbits_Flip (r : Int) : TT s_fbits_Flip.rs := (r, ())
theorem o_fbits_Flip : FOk Try.prog 109 s_fbits_Flip :=
 fn_of (Bt := blook []) (l := [(36, .pu s_fbits_Kind), (37, .pu s_fbits_Nan)]) (C := noCuts) (by kernel_rfl) tab_ok ⟨o_fbits_Kind, o_fbits_Nan, trivial⟩ (fn := Try.f109) (by kernel_rfl) rfl (by kernel_rfl) (by decide) (by kernel_rfl) (F := fun k x => fbits_Flip.f x.1) (m := m_fbits_Flip) (fun k x => rfl)
  (by exact trivial)
  (fun k ⟨(a0 : Int), _⟩ => by show LeT m_fbits_Flip (fbits_Flip.f a0) _; unfold fbits_Flip.f; exact go)
end
section
def s_fbits_signed : FSpec := ⟨[.bool, .int .u64], [.int .u64], fun _ x => (fbits_signed.f x.1 x.2.1).map fun r => (r, ())⟩
def m_fbits_signed (r : Int) : TT s_fbits_signed.rs := (r, ())
theorem o_fbits_signed : FOk Try.prog 106 s_fbits_signed :=
 fn_of (Bt := blook []) (l := []) (C := noCuts) (by kernel_rfl) tab_ok trivial (fn := Try.f106) (by kernel_rfl) rfl (by kernel_rfl) (by decide) (by kernel_rfl) (F := fun k x => fbits_signed.f x.1 x.2.1) (m := m_fbits_signed) (fun k x => rfl)
  (by exact trivial)
  (fun k ⟨(a0 : Bool), (a1 : Int), _⟩ => by show LeT m_fbits_signed (fbits_signed.f a0 a1) _; unfold fbits_signed.f; exact go)
end
section
attribute [local irreducible] fbits_signed.f
def s_fbits_Inf : FSpec := ⟨[.bool], [.int .u64], fun _ x => (fbits_Inf.f x.1).map fun r => (r, ())⟩
def m_fbits_Inf (r : Int) : TT s_fbits_Inf.rs := (r, ())
theorem o_fbits_Inf : FOk Try.prog 39 s_fbits_Inf :=
 fn_of (Bt := blook []) (l := [(106, .pu s_fbits_signed)]) (C := noCuts) (by kernel_rfl) tab_ok ⟨o_fbits_signed, trivial⟩ (fn := Try.f39) (by kernel_rfl) rfl (by kernel_rfl) (by decide) (by kernel_rfl) (F := fun k x => fbits_Inf.f x.1) (m := m_fbits_Inf) (fun k x => rfl)
  (by exact trivial)
  (fun k ⟨(a0 : Bool), _⟩ => by show LeT m_fbits_Inf (fbits_Inf.f a0) _; unfold fbits_Inf.f; exact go)
end
section
def s_limb_Len : FSpec := ⟨[.int .u64], [.int .i64], fun k x => (limb_Len.f k x.1).map fun r => (r, ())⟩
def m_limb_Len (r : Int) : TT s_limb_Len.rs := (r, ())
@[reducible] def q0_limb_Len : List Slot := [.tmp 0 [.ty (.int .u64)], .tmp 3 [.ty (.int .i64)], .tmp 4 [.ty (.int .i64)]]
def g0_limb_Len (k : Nat) (x : TS q0_limb_Len) : Option (Int) := limb_Len.l0 k x.1.1 x.2.1.1 x.2.2.1.1
def c_limb_Len : Cuts (TT s_limb_Len.rs) := ⟨⟨23, 23, []⟩, lookC [(0, ⟨q0_limb_Len, fun k x => (g0_limb_Len k x).map m_limb_Len⟩)], lookC [], lookC []⟩
theorem o_limb_Len : FOk Try.prog 107 s_limb_Len :=
 fn_of (Bt := blook []) (l := []) (C := c_limb_Len) (by kernel_rfl) tab_ok trivial (fn := Try.f107) (by kernel_rfl) rfl (by kernel_rfl) (by decide) (by kernel_rfl) (F := fun k x => limb_Len.f k x.1) (m := m_limb_Len) (fun k x => rfl)
  (by
   refine And.intro ?_ ?_
   ·refine ob_loop (sl := q0_limb_Len) (F := g0_limb_Len) (fun x => rfl) fun k ⟨⟨(x0 : Int), _⟩, ⟨(x3 : Int), _⟩, ⟨(x4 : Int), _⟩, _⟩ => ?_
    show LeT m_limb_Len (limb_Len.l0 (k + 1) x0 x3 x4) _
    rw [limb_Len.l0]; exact go
   exact trivial)
  (fun k ⟨(a0 : Int), _⟩ => by show LeT m_limb_Len (limb_Len.f k a0) _; unfold limb_Len.f; exact go)
end
section
attribute [local irreducible] fbits_signed.f limb_Len.f
def s_fbits_Make : FSpec := ⟨[.bool, .int .u64, .int .i64], [.int .u64, .bool], fun k x => (fbits_Make.f k x.1 x.2.1 x.2.2.1).map fun r => (r.1, r.2, ())⟩
def m_fbits_Make (r : Int × Bool) : TT s_fbits_Make.rs := (r.1, r.2, ())
theorem o_fbits_Make : FOk Try.prog 120 s_fbits_Make :=
 fn_of (Bt := blook []) (l := [(106, .pu s_fbits_signed), (107, .pu s_limb_Len)]) (C := noCuts) (by kernel_rfl) tab_ok ⟨o_fbits_signed, o_limb_Len, trivial⟩ (fn := Try.f120) (by kernel_rfl) rfl (by kernel_rfl) (by decide) (by kernel_rfl) (F := fun k x => fbits_Make.f k x.1 x.2.1 x.2.2.1) (m := m_fbits_Make) (fun k x => rfl)
  (by exact trivial)
  (fun k ⟨(a0 : Bool), (a1 : Int), (a2 : Int), _⟩ => by show LeT m_fbits_Make (fbits_Make.f k a0 a1 a2) _; unfold fbits_Make.f; unfold fbits_Make.j0; unfold fbits_Make.j1; unfold fbits_Make.j2; exact goq)
end
section
def s_fbits_Neg : FSpec := ⟨[.int .u64], [.bool], fun _ x => (fbits_Neg.f x.1).map fun r => (r, ())⟩
def m_fbits_Neg (r : Bool) : TT s_fbits_Neg.rs := (r, ())
theorem o_fbits_Neg : FOk Try.prog 57 s_fbits_Neg :=
 fn_of (Bt := blook []) (l := []) (C := noCuts) (by kernel_rfl) tab_ok trivial (fn := Try.f57) (by kernel_rfl) rfl (by kernel_rfl) (by decide) (by kernel_rfl) (F := fun k x => fbits_Neg.f x.1) (m := m_fbits_Neg) (fun k x => rfl)
  (by exact trivial)
  (fun k ⟨(a0 : Int), _⟩ => by show LeT m_fbits_Neg (fbits_Neg.f a0) _; unfold fbits_Neg.f; exact go)
end
section
attribute [local irreducible] fbits_Kind.f fbits_Neg.f fbits_exponent.f
def s_fbits_Parts : FSpec := ⟨[.int .u64], [.bool, .int .u64, .int .i64, .bool], fun k x => (fbits_Parts.f k x.1).map fun r => (r.1, r.2.1, r.2.2.1, r.2.2.2, ())⟩
def m_fbits_Parts (r : Bool × Int × Int × Bool) : TT s_fbits_Parts.rs := (r.1, r.2.1, r.2.2.1, r.2.2.2, ())
theorem o_fbits_Parts : FOk Try.prog 84 s_fbits_Parts :=
 fn_of (Bt := blook []) (l := [(36, .pu s_fbits_Kind), (57, .pu s_fbits_Neg), (103, .pu s_fbits_exponent)]) (C := noCuts) (by kernel_rfl) tab_ok ⟨o_fbits_Kind, o_fbits_Neg, o_fbits_exponent, trivial⟩ (fn := Try.f84) (by kernel_rfl) rfl (by kernel_rfl) (by decide) (by kernel_rfl) (F := fun k x => fbits_Parts.f k x.1) (m := m_fbits_Parts) (fun k x => rfl)
  (by exact trivial)
  (fun k ⟨(a0 : Int), _⟩ => by show LeT m_fbits_Parts (fbits_Parts.f k a0) _; unfold fbits_Parts.f; unfold fbits_Parts.j0; exact goq)
end
section
attribute [local irreducible] fbits_Kind.f
def s_fcmp_known : FSpec := ⟨[.int .u64, .int .u64], [.bool], fun _ x => (fcmp_known.f x.1 x.2.1).map fun r => (r, ())⟩
def m_fcmp_known (r : Bool) : TT s_fcmp_known.rs := (r, ())
theorem o_fcmp_known : FOk Try.prog 104 s_fcmp_known :=
 fn_of (Bt := blook []) (l := [(36, .pu s_fbits_Kind)]) (C := noCuts) (by kernel_rfl) tab_ok ⟨o_fbits_Kind, trivial⟩ (fn := Try.f104) (by kernel_rfl) rfl (by kernel_rfl) (by decide) (by kernel_rfl) (F := fun k x => fcmp_known.f x.1 x.2.1) (m := m_fcmp_known) (fun k x => rfl)
  (by exact trivial)
  (fun k ⟨(a0 : Int), (a1 : Int), _⟩ => by show LeT m_fcmp_known (fcmp_known.f a0 a1) _; unfold fcmp_known.f; exact go)
end
section
attribute [local irreducible] fbits_Neg.f
def s_fcmp_key : FSpec := ⟨[.int .u64], [.int .i64], fun _ x => (fcmp_key.f x.1).map fun r => (r, ())⟩
def m_fcmp_key (r : Int) : TT s_fcmp_key.rs := (r, ())
theorem o_fcmp_key : FOk Try.prog 105 s_fcmp_key :=
 fn_of (Bt := blook []) (l := [(57, .pu s_fbits_Neg)]) (C := noCuts) (by kernel_rfl) tab_ok ⟨o_fbits_Neg, trivial⟩ (fn := Try.f105) (by kernel_rfl) rfl (by kernel_rfl) (by decide) (by kernel_rfl) (F := fun k x => fcmp_key.f x.1) (m := m_fcmp_key) (fun k x => rfl)
  (by exact trivial)
  (fun k ⟨(a0 : Int), _⟩ => by show LeT m_fcmp_key (fcmp_key.f a0) _; unfold fcmp_key.f; exact go)
end
section
attribute [local irreducible] fcmp_known.f fcmp_key.f
def s_fcmp_Less : FSpec := ⟨[.int .u64, .int .u64], [.bool], fun _ x => (fcmp_Less.f x.1 x.2.1).map fun r => (r, ())⟩
def m_fcmp_Less (r : Bool) : TT s_fcmp_Less.rs := (r, ())
theorem o_fcmp_Less : FOk Try.prog 38 s_fcmp_Less :=
 fn_of (Bt := blook []) (l := [(104, .pu s_fcmp_known), (105, .pu s_fcmp_key)]) (C := noCuts) (by kernel_rfl) tab_ok ⟨o_fcmp_known, o_fcmp_key, trivial⟩ (fn := Try.f38) (by kernel_rfl) rfl (by kernel_rfl) (by decide) (by kernel_rfl) (F := fun k x => fcmp_Less.f x.1 x.2.1) (m := m_fcmp_Less) (fun k x => rfl)
  (by exact trivial)
  (fun k ⟨(a0 : Int), (a1 : Int), _⟩ => by show LeT m_fcmp_Less (fcmp_Less.f a0 a1) _; unfold fcmp_Less.f; exact go)
end
section
attribute [local irreducible] fbits_Parts.f limb_Len.f
def s_fcmp_Near : FSpec := ⟨[.int .u64], [.int .i64, .bool], fun k x => (fcmp_Near.f k x.1).map fun r => (r.1, r.2, ())⟩
def m_fcmp_Near (r : Int × Bool) : TT s_fcmp_Near.rs := (r.1, r.2, ())
@[reducible] def q0_fcmp_Near : List Slot := [.tmp 4 [.ty .bool], .tmp 5 [.ty (.int .u64)], .tmp 6 [.ty (.int .i64)], .tmp 25 [.ty .bool]]
def g0_fcmp_Near (k : Nat) (x : TS q0_fcmp_Near) : Option (Int × Bool) := fcmp_Near.j0 k x.1.1 x.2.1.1 x.2.2.1.1 x.2.2.2.1.1
@[reducible] def q1_fcmp_Near : List Slot := [.tmp 4 [.ty .bool], .tmp 8 [.ty (.int .i64)], .tmp 55 [.ty .bool]]
def g1_fcmp_Near (k : Nat) (x : TS q1_fcmp_Near) : Option (Int × Bool) := fcmp_Near.j1 k x.1.1 x.2.1.1 x.2.2.1.1
def c_fcmp_Near : Cuts (TT s_fcmp_Near.rs) := ⟨⟨62, 62, []⟩, lookC [], lookC [], lookC [(2, ⟨q0_fcmp_Near, fun k x => (g0_fcmp_Near k x).map m_fcmp_Near⟩), (10, ⟨q1_fcmp_Near, fun k x => (g1_fcmp_Near k x).map m_fcmp_Near⟩)]⟩
theorem o_fcmp_Near : FOk Try.prog 40 s_fcmp_Near :=
 fn_of (Bt := blook []) (l := [(84, .pu s_fbits_Parts), (107, .pu s_limb_Len)]) (C := c_fcmp_Near) (by kernel_rfl) tab_ok ⟨o_fbits_Parts, o_limb_Len, trivial⟩ (fn := Try.f40) (by kernel_rfl) rfl (by kernel_rfl) (by decide) (by kernel_rfl) (F := fun k x => fcmp_Near.f k x.1) (m := m_fcmp_Near) (fun k x => rfl)
  (by
   refine And.intro ?_ ?_
   ·refine ob_join1 (sl := q0_fcmp_Near) (F := g0_fcmp_Near) (fun x => rfl) fun k ⟨⟨(x4 : Bool), _⟩, ⟨(x5 : Int), _⟩, ⟨(x6 : Int), _⟩, ⟨(x25 : Bool), _⟩, _⟩ => ?_
    show LeT m_fcmp_Near (fcmp_Near.j0 (k + 1) x4 x5 x6 x25) _
    rw [fcmp_Near.j0]; exact go
   refine And.intro ?_ ?_
   ·refine ob_join1 (sl := q1_fcmp_Near) (F := g1_fcmp_Near) (fun x => rfl) fun k ⟨⟨(x4 : Bool), _⟩, ⟨(x8 : Int), _⟩, ⟨(x55 : Bool), _⟩, _⟩ => ?_
    show LeT m_fcmp_Near (fcmp_Near.j1 (k + 1) x4 x8 x55) _
    rw [fcmp_Near.j1]; exact go
   exact trivial)
  (fun k ⟨(a0 : Int), _⟩ => by show LeT m_fcmp_Near (fcmp_Near.f k a0) _; unfold fcmp_Near.f; exact go)
end
section
attribute [local irreducible] fbits_Inf.f fbits_Make.f
def s_fround_made : FSpec := ⟨[.bool, .int .u64, .int .i64], [.int .u64], fun k x => (fround_made.f k x.1 x.2.1 x.2.2.1).map fun r => (r, ())⟩
def m_fround_made (r : Int) : TT s_fround_made.rs := (r, ())
theorem o_fround_made : FOk Try.prog 68 s_fround_made :=
 fn_of (Bt := blook []) (l := [(39, .pu s_fbits_Inf), (120, .pu s_fbits_Make)]) (C := noCuts) (by kernel_rfl) tab_ok ⟨o_fbits_Inf, o_fbits_Make, trivial⟩ (fn := Try.f68) (by kernel_rfl) rfl (by kernel_rfl) (by decide) (by kernel_rfl) (F := fun k x => fround_made.f k x.1 x.2.1 x.2.2.1) (m := m_fround_made) (fun k x => rfl)
  (by exact trivial)
  (fun k ⟨(a0 : Bool), (a1 : Int), (a2 : Int), _⟩ => by show LeT m_fround_made (fround_made.f k a0 a1 a2) _; unfold fround_made.f; exact go)
end
section
def s_fround_even : FSpec := ⟨[.int .u64, .bool, .bool], [.int .u64], fun _ x => (fround_even.f x.1 x.2.1 x.2.2.1).map fun r => (r, ())⟩
def m_fround_even (r : Int) : TT s_fround_even.rs := (r, ())
theorem o_fround_even : FOk Try.prog 126 s_fround_even :=
 fn_of (Bt := blook []) (l := []) (C := noCuts) (by kernel_rfl) tab_ok trivial (fn := Try.f126) (by kernel_rfl) rfl (by kernel_rfl) (by decide) (by kernel_rfl) (F := fun k x => fround_even.f x.1 x.2.1 x.2.2.1) (m := m_fround_even) (fun k x => rfl)
  (by exact trivial)
  (fun k ⟨(a0 : Int), (a1 : Bool), (a2 : Bool), _⟩ => by show LeT m_fround_even (fround_even.f a0 a1 a2) _; unfold fround_even.f; exact go)
end
section
attribute [local irreducible] fbits_Inf.f fround_made.f limb_Len.f fround_even.f
def s_fround_Word : FSpec := ⟨[.bool, .int .u64, .int .i64], [.int .u64], fun k x => (fround_Word.f k x.1 x.2.1 x.2.2.1).map fun r => (r, ())⟩
def m_fround_Word (r : Int) : TT s_fround_Word.rs := (r, ())
theorem o_fround_Word : FOk Try.prog 65 s_fround_Word :=
 fn_of (Bt := blook []) (l := [(39, .pu s_fbits_Inf), (68, .pu s_fround_made), (107, .pu s_limb_Len), (126, .pu s_fround_even)]) (C := noCuts) (by kernel_rfl) tab_ok ⟨o_fbits_Inf, o_fround_made, o_limb_Len, o_fround_even, trivial⟩ (fn := Try.f65) (by kernel_rfl) rfl (by kernel_rfl) (by decide) (by kernel_rfl) (F := fun k x => fround_Word.f k x.1 x.2.1 x.2.2.1) (m := m_fround_Word) (fun k x => rfl)
  (by exact trivial)
  (fun k ⟨(a0 : Bool), (a1 : Int), (a2 : Int), _⟩ => by show LeT m_fround_Word (fround_Word.f k a0 a1 a2) _; unfold fround_Word.f; exact go)
end
section
attribute [local irreducible] fround_Word.f fbits_Parts.f fbits_Clean.f
def s_fcmp_Scale : FSpec := ⟨[.int .u64, .int .i64], [.int .u64], fun k x => (fcmp_Scale.f k x.1 x.2.1).map fun r => (r, ())⟩
def m_fcmp_Scale (r : Int) : TT s_fcmp_Scale.rs := (r, ())
theorem o_fcmp_Scale : FOk Try.prog 46 s_fcmp_Scale :=
 fn_of (Bt := blook []) (l := [(65, .pu s_fround_Word), (84, .pu s_fbits_Parts), (112, .pu s_fbits_Clean)]) (C := noCuts) (by kernel_rfl) tab_ok ⟨o_fround_Word, o_fbits_Parts, o_fbits_Clean, trivial⟩ (fn := Try.f46) (by kernel_rfl) rfl (by kernel_rfl) (by decide) (by kernel_rfl) (F := fun k x => fcmp_Scale.f k x.1 x.2.1) (m := m_fcmp_Scale) (fun k x => rfl)
  (by exact trivial)
  (fun k ⟨(a0 : Int), (a1 : Int), _⟩ => by show LeT m_fcmp_Scale (fcmp_Scale.f k a0 a1) _; unfold fcmp_Scale.f; exact go)
end
section
attribute [local irreducible] fbits_Make.f
def s_fprod_signed : FSpec := ⟨[.bool], [.int .u64], fun k x => (fprod_signed.f k x.1).map fun r => (r, ())⟩
def m_fprod_signed (r : Int) : TT s_fprod_signed.rs := (r, ())
theorem o_fprod_signed : FOk Try.prog 121 s_fprod_signed :=
 fn_of (Bt := blook []) (l := [(120, .pu s_fbits_Make)]) (C := noCuts) (by kernel_rfl) tab_ok ⟨o_fbits_Make, trivial⟩ (fn := Try.f121) (by kernel_rfl) rfl (by kernel_rfl) (by decide) (by kernel_rfl) (F := fun k x => fprod_signed.f k x.1) (m := m_fprod_signed) (fun k x => rfl)
  (by exact trivial)
  (fun k ⟨(a0 : Bool), _⟩ => by show LeT m_fprod_signed (fprod_signed.f k a0) _; unfold fprod_signed.f; exact go)
end
section
def s_limb_digit : FSpec := ⟨[.int .u64, .int .u64, .int .u64], [.int .u64, .int .u64], fun k x => (limb_digit.f k x.1 x.2.1 x.2.2.1).map fun r => (r.1, r.2, ())⟩
def m_limb_digit (r : Int × Int) : TT s_limb_digit.rs := (r.1, r.2, ())
@[reducible] def q0_limb_digit : List Slot := [.tmp 0 [.ty (.int .u64)], .tmp 1 [.ty (.int .u64)], .tmp 2 [.ty (.int .u64)], .tmp 8 [.ty (.int .u64)], .tmp 9 [.ty (.int .u64)], .tmp 10 [.ty (.int .u64)], .tmp 11 [.ty (.int .u64)]]
def g0_limb_digit (k : Nat) (x : TS q0_limb_digit) : Option (Int × Int) := limb_digit.l0 k x.1.1 x.2.1.1 x.2.2.1.1 x.2.2.2.1.1 x.2.2.2.2.1.1 x.2.2.2.2.2.1.1 x.2.2.2.2.2.2.1.1
@[reducible] def q1_limb_digit : List Slot := [.tmp 0 [.ty (.int .u64)], .tmp 1 [.ty (.int .u64)], .tmp 2 [.ty (.int .u64)], .tmp 8 [.ty (.int .u64)], .tmp 9 [.ty (.int .u64)], .tmp 10 [.ty (.int .u64)], .tmp 11 [.ty (.int .u64)], .tmp 33 [.ty .bool]]
def g1_limb_digit (k : Nat) (x : TS q1_limb_digit) : Option (Int × Int) := limb_digit.j1 k x.1.1 x.2.1.1 x.2.2.1.1 x.2.2.2.1.1 x.2.2.2.2.1.1 x.2.2.2.2.2.1.1 x.2.2.2.2.2.2.1.1 x.2.2.2.2.2.2.2.1.1
def c_limb_digit : Cuts (TT s_limb_digit.rs) := ⟨⟨50, 50, []⟩, lookC [(0, ⟨q0_limb_digit, fun k x => (g0_limb_digit k x).map m_limb_digit⟩)], lookC [], lookC [(4, ⟨q1_limb_digit, fun k x => (g1_limb_digit k x).map m_limb_digit⟩)]⟩
theorem o_limb_digit : FOk Try.prog 165 s_limb_digit :=
 fn_of (Bt := blook []) (l := []) (C := c_limb_digit) (by kernel_rfl) tab_ok trivial (fn := Try.f165) (by kernel_rfl) rfl (by kernel_rfl) (by decide) (by kernel_rfl) (F := fun k x => limb_digit.f k x.1 x.2.1 x.2.2.1) (m := m_limb_digit) (fun k x => rfl)
  (by
   refine And.intro ?_ ?_
   ·refine ob_loop (sl := q0_limb_digit) (F := g0_limb_digit) (fun x => rfl) fun k ⟨⟨(x0 : Int), _⟩, ⟨(x1 : Int), _⟩, ⟨(x2 : Int), _⟩, ⟨(x8 : Int), _⟩, ⟨(x9 : Int), _⟩, ⟨(x10 : Int), _⟩, ⟨(x11 : Int), _⟩, _⟩ => ?_
    show LeT m_limb_digit (limb_digit.l0 (k + 1) x0 x1 x2 x8 x9 x10 x11) _
    rw [limb_digit.l0]; exact go
   refine And.intro ?_ ?_
   ·refine ob_join1 (sl := q1_limb_digit) (F := g1_limb_digit) (fun x => rfl) fun k ⟨⟨(x0 : Int), _⟩, ⟨(x1 : Int), _⟩, ⟨(x2 : Int), _⟩, ⟨(x8 : Int), _⟩, ⟨(x9 : Int), _⟩, ⟨(x10 : Int), _⟩, ⟨(x11 : Int), _⟩, ⟨(x33 : Bool), _⟩, _⟩ => ?_
    show LeT m_limb_digit (limb_digit.j1 (k + 1) x0 x1 x2 x8 x9 x10 x11 x33) _
    rw [limb_digit.j1]; exact go
   exact trivial)
  (fun k ⟨(a0 : Int), (a1 : Int), (a2 : Int), _⟩ => by show LeT m_limb_digit (limb_digit.f k a0 a1 a2) _; unfold limb_digit.f; exact go)
end
section
attribute [local irreducible] limb_Len.f limb_digit.f
def s_limb_Div : FSpec := ⟨[.int .u64, .int .u64, .int .u64], [.int .u64, .int .u64, .bool], fun k x => (limb_Div.f k x.1 x.2.1 x.2.2.1).map fun r => (r.1, r.2.1, r.2.2, ())⟩
def m_limb_Div (r : Int × Int × Bool) : TT s_limb_Div.rs := (r.1, r.2.1, r.2.2, ())
theorem o_limb_Div : FOk Try.prog 122 s_limb_Div :=
 fn_of (Bt := blook [(5, [0, 0, 3, 0, 8, 0, 32, 120, 255, 511]), (9, [0, 1, 0, 7, 0, 0, 48, 15, 255, 511])]) (l := [(107, .pu s_limb_Len), (165, .pu s_limb_digit)]) (C := noCuts) (by kernel_rfl) tab_ok ⟨o_limb_Len, o_limb_digit, trivial⟩ (fn := Try.f122) (by kernel_rfl) rfl (by kernel_rfl) (by decide) (by kernel_rfl) (F := fun k x => limb_Div.f k x.1 x.2.1 x.2.2.1) (m := m_limb_Div) (fun k x => rfl)
  (by exact trivial)
  (fun k ⟨(a0 : Int), (a1 : Int), (a2 : Int), _⟩ => by show LeT m_limb_Div (limb_Div.f k a0 a1 a2) _; unfold limb_Div.f; exact go)
end
section
attribute [local irreducible] fbits_Kind.f fbits_Nan.f fbits_Inf.f fbits_Neg.f fround_Word.f fbits_Parts.f limb_Len.f fprod_signed.f limb_Div.f
def s_fprod_Div : FSpec := ⟨[.int .u64, .int .u64], [.int .u64], fun k x => (fprod_Div.f k x.1 x.2.1).map fun r => (r, ())⟩
def m_fprod_Div (r : Int) : TT s_fprod_Div.rs := (r, ())
@[reducible] def q0_fprod_Div : List Slot := [.tmp 0 [.ty (.int .u64)], .tmp 1 [.ty (.int .u64)], .tmp 5 [.ty (.int .i64)], .tmp 6 [.ty (.int .i64)], .tmp 7 [.ty .bool], .tmp 30 [.ty .bool]]
def g0_fprod_Div (k : Nat) (x : TS q0_fprod_Div) : Option (Int) := fprod_Div.j0 k x.1.1 x.2.1.1 x.2.2.1.1 x.2.2.2.1.1 x.2.2.2.2.1.1 x.2.2.2.2.2.1.1
@[reducible] def q1_fprod_Div : List Slot := [.tmp 0 [.ty (.int .u64)], .tmp 1 [.ty (.int .u64)], .tmp 5 [.ty (.int .i64)], .tmp 6 [.ty (.int .i64)], .tmp 7 [.ty .bool], .tmp 51 [.ty .bool]]
def g1_fprod_Div (k : Nat) (x : TS q1_fprod_Div) : Option (Int) := fprod_Div.j1 k x.1.1 x.2.1.1 x.2.2.1.1 x.2.2.2.1.1 x.2.2.2.2.1.1 x.2.2.2.2.2.1.1
def c_fprod_Div : Cuts (TT s_fprod_Div.rs) := ⟨⟨115, 115, []⟩, lookC [], lookC [], lookC [(3, ⟨q0_fprod_Div, fun k x => (g0_fprod_Div k x).map m_fprod_Div⟩), (5, ⟨q1_fprod_Div, fun k x => (g1_fprod_Div k x).map m_fprod_Div⟩)]⟩
theorem o_fprod_Div : FOk Try.prog 59 s_fprod_Div :=
 fn_of (Bt := blook [(12, [0, 0, 3, 0, 0, 24, 63, 127, 255, 255, 255, 511, 3071, 8191])]) (l := [(36, .pu s_fbits_Kind), (37, .pu s_fbits_Nan), (39, .pu s_fbits_Inf), (57, .pu s_fbits_Neg), (65, .pu s_fround_Word), (84, .pu s_fbits_Parts), (107, .pu s_limb_Len), (121, .pu s_fprod_signed), (122, .pu s_limb_Div)]) (C := c_fprod_Div) (by kernel_rfl) tab_ok ⟨o_fbits_Kind, o_fbits_Nan, o_fbits_Inf, o_fbits_Neg, o_fround_Word, o_fbits_Parts, o_limb_Len, o_fprod_signed, o_limb_Div, trivial⟩ (fn := Try.f59) (by kernel_rfl) rfl (by kernel_rfl) (by decide) (by kernel_rfl) (F := fun k x => fprod_Div.f k x.1 x.2.1) (m := m_fprod_Div) (fun k x => rfl)
  (by
   refine And.intro ?_ ?_
   ·refine ob_join1 (sl := q0_fprod_Div) (F := g0_fprod_Div) (fun x => rfl) fun k ⟨⟨(x0 : Int), _⟩, ⟨(x1 : Int), _⟩, ⟨(x5 : Int), _⟩, ⟨(x6 : Int), _⟩, ⟨(x7 : Bool), _⟩, ⟨(x30 : Bool), _⟩, _⟩ => ?_
    show LeT m_fprod_Div (fprod_Div.j0 (k + 1) x0 x1 x5 x6 x7 x30) _
    rw [fprod_Div.j0]; exact go
   refine And.intro ?_ ?_
   ·refine ob_join1 (sl := q1_fprod_Div) (F := g1_fprod_Div) (fun x => rfl) fun k ⟨⟨(x0 : Int), _⟩, ⟨(x1 : Int), _⟩, ⟨(x5 : Int), _⟩, ⟨(x6 : Int), _⟩, ⟨(x7 : Bool), _⟩, ⟨(x51 : Bool), _⟩, _⟩ => ?_
    show LeT m_fprod_Div (fprod_Div.j1 (k + 1) x0 x1 x5 x6 x7 x51) _
    rw [fprod_Div.j1]; exact go
   exact trivial)
  (fun k ⟨(a0 : Int), (a1 : Int), _⟩ => by show LeT m_fprod_Div (fprod_Div.f k a0 a1) _; unfold fprod_Div.f; exact go)
end
section
def s_limb_Mul : FSpec := ⟨[.int .u64, .int .u64], [.int .u64, .int .u64], fun _ x => (limb_Mul.f x.1 x.2.1).map fun r => (r.1, r.2, ())⟩
def m_limb_Mul (r : Int × Int) : TT s_limb_Mul.rs := (r.1, r.2, ())
theorem o_limb_Mul : FOk Try.prog 108 s_limb_Mul :=
 fn_of (Bt := blook []) (l := []) (C := noCuts) (by kernel_rfl) tab_ok trivial (fn := Try.f108) (by kernel_rfl) rfl (by kernel_rfl) (by decide) (by kernel_rfl) (F := fun k x => limb_Mul.f x.1 x.2.1) (m := m_limb_Mul) (fun k x => rfl)
  (by exact trivial)
  (fun k ⟨(a0 : Int), (a1 : Int), _⟩ => by show LeT m_limb_Mul (limb_Mul.f a0 a1) _; unfold limb_Mul.f; exact go)
end
section
attribute [local irreducible] fbits_Kind.f fbits_Nan.f fbits_Inf.f fbits_Neg.f fround_Word.f fbits_Parts.f limb_Len.f limb_Mul.f
def s_fprod_Mul : FSpec := ⟨[.int .u64, .int .u64], [.int .u64], fun k x => (fprod_Mul.f k x.1 x.2.1).map fun r => (r, ())⟩
def m_fprod_Mul (r : Int) : TT s_fprod_Mul.rs := (r, ())
@[reducible] def q0_fprod_Mul : List Slot := [.tmp 0 [.ty (.int .u64)], .tmp 1 [.ty (.int .u64)], .tmp 5 [.ty (.int .i64)], .tmp 6 [.ty (.int .i64)], .tmp 7 [.ty .bool], .tmp 29 [.ty .bool]]
def g0_fprod_Mul (k : Nat) (x : TS q0_fprod_Mul) : Option (Int) := fprod_Mul.j0 k x.1.1 x.2.1.1 x.2.2.1.1 x.2.2.2.1.1 x.2.2.2.2.1.1 x.2.2.2.2.2.1.1
@[reducible] def q1_fprod_Mul : List Slot := [.tmp 0 [.ty (.int .u64)], .tmp 1 [.ty (.int .u64)], .tmp 5 [.ty (.int .i64)], .tmp 6 [.ty (.int .i64)], .tmp 7 [.ty .bool], .tmp 37 [.ty .bool]]
def g1_fprod_Mul (k : Nat) (x : TS q1_fprod_Mul) : Option (Int) := fprod_Mul.j1 k x.1.1 x.2.1.1 x.2.2.1.1 x.2.2.2.1.1 x.2.2.2.2.1.1 x.2.2.2.2.2.1.1
@[reducible] def q2_fprod_Mul : List Slot := [.tmp 7 [.ty .bool], .tmp 49 [.ty .bool]]
def g2_fprod_Mul (k : Nat) (x : TS q2_fprod_Mul) : Option (Int) := fprod_Mul.j2 k x.1.1 x.2.1.1
def c_fprod_Mul : Cuts (TT s_fprod_Mul.rs) := ⟨⟨106, 106, []⟩, lookC [], lookC [], lookC [(3, ⟨q0_fprod_Mul, fun k x => (g0_fprod_Mul k x).map m_fprod_Mul⟩), (5, ⟨q1_fprod_Mul, fun k x => (g1_fprod_Mul k x).map m_fprod_Mul⟩), (6, ⟨q2_fprod_Mul, fun k x => (g2_fprod_Mul k x).map m_fprod_Mul⟩)]⟩
theorem o_fprod_Mul : FOk Try.prog 41 s_fprod_Mul :=
 fn_of (Bt := blook [(15, [0, 0, 2, 7, 0, 0, 48, 127, 255])]) (l := [(36, .pu s_fbits_Kind), (37, .pu s_fbits_Nan), (39, .pu s_fbits_Inf), (57, .pu s_fbits_Neg), (65, .pu s_fround_Word), (84, .pu s_fbits_Parts), (107, .pu s_limb_Len), (108, .pu s_limb_Mul)]) (C := c_fprod_Mul) (by kernel_rfl) tab_ok ⟨o_fbits_Kind, o_fbits_Nan, o_fbits_Inf, o_fbits_Neg, o_fround_Word, o_fbits_Parts, o_limb_Len, o_limb_Mul, trivial⟩ (fn := Try.f41) (by kernel_rfl) rfl (by kernel_rfl) (by decide) (by kernel_rfl) (F := fun k x => fprod_Mul.f k x.1 x.2.1) (m := m_fprod_Mul) (fun k x => rfl)
  (by
   refine And.intro ?_ ?_
   ·refine ob_join1 (sl := q0_fprod_Mul) (F := g0_fprod_Mul) (fun x => rfl) fun k ⟨⟨(x0 : Int), _⟩, ⟨(x1 : Int), _⟩, ⟨(x5 : Int), _⟩, ⟨(x6 : Int), _⟩, ⟨(x7 : Bool), _⟩, ⟨(x29 : Bool), _⟩, _⟩ => ?_
    show LeT m_fprod_Mul (fprod_Mul.j0 (k + 1) x0 x1 x5 x6 x7 x29) _
    rw [fprod_Mul.j0]; exact go
   refine And.intro ?_ ?_
   ·refine ob_join1 (sl := q1_fprod_Mul) (F := g1_fprod_Mul) (fun x => rfl) fun k ⟨⟨(x0 : Int), _⟩, ⟨(x1 : Int), _⟩, ⟨(x5 : Int), _⟩, ⟨(x6 : Int), _⟩, ⟨(x7 : Bool), _⟩, ⟨(x37 : Bool), _⟩, _⟩ => ?_
    show LeT m_fprod_Mul (fprod_Mul.j1 (k + 1) x0 x1 x5 x6 x7 x37) _
    rw [fprod_Mul.j1]; exact go
   refine And.intro ?_ ?_
   ·refine ob_join1 (sl := q2_fprod_Mul) (F := g2_fprod_Mul) (fun x => rfl) fun k ⟨⟨(x7 : Bool), _⟩, ⟨(x49 : Bool), _⟩, _⟩ => ?_
    show LeT m_fprod_Mul (fprod_Mul.j2 (k + 1) x7 x49) _
    rw [fprod_Mul.j2]; exact go
   exact trivial)
  (fun k ⟨(a0 : Int), (a1 : Int), _⟩ => by show LeT m_fprod_Mul (fprod_Mul.f k a0 a1) _; unfold fprod_Mul.f; exact go)
end
section
attribute [local irreducible] fround_Word.f
def s_fround_FromInt : FSpec := ⟨[.int .i64], [.int .u64], fun k x => (fround_FromInt.f k x.1).map fun r => (r, ())⟩
def m_fround_FromInt (r : Int) : TT s_fround_FromInt.rs := (r, ())
theorem o_fround_FromInt : FOk Try.prog 42 s_fround_FromInt :=
 fn_of (Bt := blook []) (l := [(65, .pu s_fround_Word)]) (C := noCuts) (by kernel_rfl) tab_ok ⟨o_fround_Word, trivial⟩ (fn := Try.f42) (by kernel_rfl) rfl (by kernel_rfl) (by decide) (by kernel_rfl) (F := fun k x => fround_FromInt.f k x.1) (m := m_fround_FromInt) (fun k x => rfl)
  (by exact trivial)
  (fun k ⟨(a0 : Int), _⟩ => by show LeT m_fround_FromInt (fround_FromInt.f k a0) _; unfold fround_FromInt.f; exact go)
end
section
def s_fsum_odd : FSpec := ⟨[.int .u64, .int .i64], [.int .u64], fun _ x => (fsum_odd.f x.1 x.2.1).map fun r => (r, ())⟩
def m_fsum_odd (r : Int) : TT s_fsum_odd.rs := (r, ())
theorem o_fsum_odd : FOk Try.prog 161 s_fsum_odd :=
 fn_of (Bt := blook []) (l := []) (C := noCuts) (by kernel_rfl) tab_ok trivial (fn := Try.f161) (by kernel_rfl) rfl (by kernel_rfl) (by decide) (by kernel_rfl) (F := fun k x => fsum_odd.f x.1 x.2.1) (m := m_fsum_odd) (fun k x => rfl)
  (by exact trivial)
  (fun k ⟨(a0 : Int), (a1 : Int), _⟩ => by show LeT m_fsum_odd (fsum_odd.f a0 a1) _; unfold fsum_odd.f; exact go)
end
section
attribute [local irreducible] fround_Word.f fsum_odd.f
def s_fsum_finite : FSpec := ⟨[(.cons .bool (.cons (.int .u64) (.int .i64))), (.cons .bool (.cons (.int .u64) (.int .i64)))], [.int .u64], fun k x => (fsum_finite.f k x.1.1 x.1.2.1 x.1.2.2 x.2.1.1 x.2.1.2.1 x.2.1.2.2).map fun r => (r, ())⟩
def m_fsum_finite (r : Int) : TT s_fsum_finite.rs := (r, ())
theorem o_fsum_finite : FOk Try.prog 110 s_fsum_finite :=
 fn_of (Bt := blook []) (l := [(65, .pu s_fround_Word), (161, .pu s_fsum_odd)]) (C := noCuts) (by kernel_rfl) tab_ok ⟨o_fround_Word, o_fsum_odd, trivial⟩ (fn := Try.f110) (by kernel_rfl) rfl (by kernel_rfl) (by decide) (by kernel_rfl) (F := fun k x => fsum_finite.f k x.1.1 x.1.2.1 x.1.2.2 x.2.1.1 x.2.1.2.1 x.2.1.2.2) (m := m_fsum_finite) (fun k x => rfl)
  (by exact trivial)
  (fun k ⟨(a0 : Bool × Int × Int), (a1 : Bool × Int × Int), _⟩ => by show LeT m_fsum_finite (fsum_finite.f k a0.1 a0.2.1 a0.2.2 a1.1 a1.2.1 a1.2.2) _; unfold fsum_finite.f; unfold fsum_finite.j0; exact goq)
end
section
attribute [local irreducible] fbits_Parts.f
def s_fsum_of : FSpec := ⟨[.int .u64], [(.cons .bool (.cons (.int .u64) (.int .i64)))], fun k x => (fsum_of.f k x.1).map fun r => ((r.1, r.2.1, r.2.2), ())⟩
def m_fsum_of (r : Bool × Int × Int) : TT s_fsum_of.rs := ((r.1, r.2.1, r.2.2), ())
theorem o_fsum_of : FOk Try.prog 111 s_fsum_of :=
 fn_of (Bt := blook []) (l := [(84, .pu s_fbits_Parts)]) (C := noCuts) (by kernel_rfl) tab_ok ⟨o_fbits_Parts, trivial⟩ (fn := Try.f111) (by kernel_rfl) rfl (by kernel_rfl) (by decide) (by kernel_rfl) (F := fun k x => fsum_of.f k x.1) (m := m_fsum_of) (fun k x => rfl)
  (by exact trivial)
  (fun k ⟨(a0 : Int), _⟩ => by show LeT m_fsum_of (fsum_of.f k a0) _; unfold fsum_of.f; exact go)
end
section
attribute [local irreducible] fbits_Kind.f fbits_Nan.f fsum_finite.f fsum_of.f
def s_fsum_Add : FSpec := ⟨[.int .u64, .int .u64], [.int .u64], fun k x => (fsum_Add.f k x.1 x.2.1).map fun r => (r, ())⟩
def m_fsum_Add (r : Int) : TT s_fsum_Add.rs := (r, ())
@[reducible] def q0_fsum_Add : List Slot := [.tmp 0 [.ty (.int .u64)], .tmp 1 [.ty (.int .u64)], .tmp 5 [.ty (.int .i64)], .tmp 6 [.ty (.int .i64)], .tmp 11 [.ty .bool]]
def g0_fsum_Add (k : Nat) (x : TS q0_fsum_Add) : Option (Int) := fsum_Add.j0 k x.1.1 x.2.1.1 x.2.2.1.1 x.2.2.2.1.1 x.2.2.2.2.1.1
@[reducible] def q1_fsum_Add : List Slot := [.tmp 0 [.ty (.int .u64)], .tmp 1 [.ty (.int .u64)], .tmp 5 [.ty (.int .i64)], .tmp 6 [.ty (.int .i64)], .tmp 19 [.ty .bool]]
def g1_fsum_Add (k : Nat) (x : TS q1_fsum_Add) : Option (Int) := fsum_Add.j1 k x.1.1 x.2.1.1 x.2.2.1.1 x.2.2.2.1.1 x.2.2.2.2.1.1
def c_fsum_Add : Cuts (TT s_fsum_Add.rs) := ⟨⟨45, 45, []⟩, lookC [], lookC [], lookC [(2, ⟨q0_fsum_Add, fun k x => (g0_fsum_Add k x).map m_fsum_Add⟩), (4, ⟨q1_fsum_Add, fun k x => (g1_fsum_Add k x).map m_fsum_Add⟩)]⟩
theorem o_fsum_Add : FOk Try.prog 45 s_fsum_Add :=
 fn_of (Bt := blook []) (l := [(36, .pu s_fbits_Kind), (37, .pu s_fbits_Nan), (110, .pu s_fsum_finite), (111, .pu s_fsum_of)]) (C := c_fsum_Add) (by kernel_rfl) tab_ok ⟨o_fbits_Kind, o_fbits_Nan, o_fsum_finite, o_fsum_of, trivial⟩ (fn := Try.f45) (by kernel_rfl) rfl (by kernel_rfl) (by decide) (by kernel_rfl) (F := fun k x => fsum_Add.f k x.1 x.2.1) (m := m_fsum_Add) (fun k x => rfl)
  (by
   refine And.intro ?_ ?_
   ·refine ob_join1 (sl := q0_fsum_Add) (F := g0_fsum_Add) (fun x => rfl) fun k ⟨⟨(x0 : Int), _⟩, ⟨(x1 : Int), _⟩, ⟨(x5 : Int), _⟩, ⟨(x6 : Int), _⟩, ⟨(x11 : Bool), _⟩, _⟩ => ?_
    show LeT m_fsum_Add (fsum_Add.j0 (k + 1) x0 x1 x5 x6 x11) _
    rw [fsum_Add.j0]; exact go
   refine And.intro ?_ ?_
   ·refine ob_join1 (sl := q1_fsum_Add) (F := g1_fsum_Add) (fun x => rfl) fun k ⟨⟨(x0 : Int), _⟩, ⟨(x1 : Int), _⟩, ⟨(x5 : Int), _⟩, ⟨(x6 : Int), _⟩, ⟨(x19 : Bool), _⟩, _⟩ => ?_
    show LeT m_fsum_Add (fsum_Add.j1 (k + 1) x0 x1 x5 x6 x19) _
    rw [fsum_Add.j1]; exact go
   exact trivial)
  (fun k ⟨(a0 : Int), (a1 : Int), _⟩ => by show LeT m_fsum_Add (fsum_Add.f k a0 a1) _; unfold fsum_Add.f; exact go)
end
section
attribute [local irreducible] fsum_Add.f fbits_Flip.f
def s_fsum_Sub : FSpec := ⟨[.int .u64, .int .u64], [.int .u64], fun k x => (fsum_Sub.f k x.1 x.2.1).map fun r => (r, ())⟩
def m_fsum_Sub (r : Int) : TT s_fsum_Sub.rs := (r, ())
theorem o_fsum_Sub : FOk Try.prog 43 s_fsum_Sub :=
 fn_of (Bt := blook []) (l := [(45, .pu s_fsum_Add), (109, .pu s_fbits_Flip)]) (C := noCuts) (by kernel_rfl) tab_ok ⟨o_fsum_Add, o_fbits_Flip, trivial⟩ (fn := Try.f43) (by kernel_rfl) rfl (by kernel_rfl) (by decide) (by kernel_rfl) (F := fun k x => fsum_Sub.f k x.1 x.2.1) (m := m_fsum_Sub) (fun k x => rfl)
  (by exact trivial)
  (fun k ⟨(a0 : Int), (a1 : Int), _⟩ => by show LeT m_fsum_Sub (fsum_Sub.f k a0 a1) _; unfold fsum_Sub.f; exact go)
end
section
attribute [local irreducible] fround_FromInt.f fprod_Div.f
def s_kernel_part : FSpec := ⟨[.int .i64], [.int .u64], fun k x => (kernel_part.f k x.1).map fun r => (r, ())⟩
def m_kernel_part (r : Int) : TT s_kernel_part.rs := (r, ())
theorem o_kernel_part : FOk Try.prog 44 s_kernel_part :=
 fn_of (Bt := blook []) (l := [(42, .pu s_fround_FromInt), (59, .pu s_fprod_Div)]) (C := noCuts) (by kernel_rfl) tab_ok ⟨o_fround_FromInt, o_fprod_Div, trivial⟩ (fn := Try.f44) (by kernel_rfl) rfl (by kernel_rfl) (by decide) (by kernel_rfl) (F := fun k x => kernel_part.f k x.1) (m := m_kernel_part) (fun k x => rfl)
  (by exact trivial)
  (fun k ⟨(a0 : Int), _⟩ => by show LeT m_kernel_part (kernel_part.f k a0) _; unfold kernel_part.f; exact go)
end
section
attribute [local irreducible] fbits_Kind.f fbits_Nan.f fcmp_Less.f fbits_Inf.f fcmp_Near.f fprod_Mul.f fround_FromInt.f fsum_Sub.f kernel_part.f fsum_Add.f fcmp_Scale.f
def s_kernel_Exp : FSpec := ⟨[.int .u64], [.int .u64], fun k x => (kernel_Exp.f k x.1).map fun r => (r, ())⟩
def m_kernel_Exp (r : Int) : TT s_kernel_Exp.rs := (r, ())
@[reducible] def q0_kernel_Exp : List Slot := [.tmp 3 [.ty (.int .i64)], .tmp 6 [.ty (.int .u64)], .tmp 7 [.aptr 7], .arr 7 62 (.int .i64), .tmp 9 [.ty (.int .u64)], .tmp 10 [.ty (.int .i64)]]
def g0_kernel_Exp (k : Nat) (x : TS q0_kernel_Exp) : Option (Int) := kernel_Exp.l1 k x.1.1 x.2.1.1 x.2.2.2.1 x.2.2.2.2.1.1 x.2.2.2.2.2.1.1
@[reducible] def q1_kernel_Exp : List Slot := [.tmp 3 [.ty (.int .i64)], .tmp 6 [.ty (.int .u64)], .tmp 7 [.aptr 7], .arr 7 62 (.int .i64), .tmp 39 [.ty (.int .i64)]]
def g1_kernel_Exp (k : Nat) (x : TS q1_kernel_Exp) : Option (Int) := kernel_Exp.l0 k x.1.1 x.2.1.1 x.2.2.2.1 x.2.2.2.2.1.1
def c_kernel_Exp : Cuts (TT s_kernel_Exp.rs) := ⟨⟨70, 70, []⟩, lookC [(1, ⟨q0_kernel_Exp, fun k x => (g0_kernel_Exp k x).map m_kernel_Exp⟩), (0, ⟨q1_kernel_Exp, fun k x => (g1_kernel_Exp k x).map m_kernel_Exp⟩)], lookC [], lookC []⟩
theorem o_kernel_Exp : FOk Try.prog 8 s_kernel_Exp :=
 fn_of (Bt := blook [(20, [0, 0, 3, 0, 8, 24, 63, 127, 255])]) (l := [(36, .pu s_fbits_Kind), (37, .pu s_fbits_Nan), (38, .pu s_fcmp_Less), (39, .pu s_fbits_Inf), (40, .pu s_fcmp_Near), (41, .pu s_fprod_Mul), (42, .pu s_fround_FromInt), (43, .pu s_fsum_Sub), (44, .pu s_kernel_part), (45, .pu s_fsum_Add), (46, .pu s_fcmp_Scale)]) (C := c_kernel_Exp) (by kernel_rfl) tab_ok ⟨o_fbits_Kind, o_fbits_Nan, o_fcmp_Less, o_fbits_Inf, o_fcmp_Near, o_fprod_Mul, o_fround_FromInt, o_fsum_Sub, o_kernel_part, o_fsum_Add, o_fcmp_Scale, trivial⟩ (fn := Try.f8) (by kernel_rfl) rfl (by kernel_rfl) (by decide) (by kernel_rfl) (F := fun k x => kernel_Exp.f k x.1) (m := m_kernel_Exp) (fun k x => rfl)
  (by
   refine And.intro ?_ ?_
   ·refine ob_loop (sl := q1_kernel_Exp) (F := g1_kernel_Exp) (fun x => rfl) fun k ⟨⟨(e : Int), _⟩, ⟨(r : Int), _⟩, _, (fs : List Int), ⟨(i : Int), _⟩, _⟩ => ?_
    show LeT m_kernel_Exp (kernel_Exp.l0 (k + 1) e r fs i) _
    rw [kernel_Exp.l0]; exact go
   refine And.intro ?_ ?_
   ·refine ob_loop (sl := q0_kernel_Exp) (F := g0_kernel_Exp) (fun x => rfl) fun k ⟨⟨(e : Int), _⟩, ⟨(r : Int), _⟩, _, (fs : List Int), ⟨(p : Int), _⟩, ⟨(i : Int), _⟩, _⟩ => ?_
    show LeT m_kernel_Exp (kernel_Exp.l1 (k + 1) e r fs p i) _
    rw [kernel_Exp.l1]; exact go
   exact trivial)
  (fun k ⟨(a0 : Int), _⟩ => by show LeT m_kernel_Exp (kernel_Exp.f k a0) _; unfold kernel_Exp.f; exact go)
end
section
def s_gradineref09_Field : FSpec := ⟨[.int .u64], [.int .i64], fun _ x => (gradineref09_Field.f x.1).map fun r => (r, ())⟩
def m_gradineref09_Field (r : Int) : TT s_gradineref09_Field.rs := (r, ())
theorem o_gradineref09_Field : FOk Try.prog 61 s_gradineref09_Field :=
 fn_of (Bt := blook []) (l := []) (C := noCuts) (by kernel_rfl) tab_ok trivial (fn := Try.f61) (by kernel_rfl) rfl (by kernel_rfl) (by decide) (by kernel_rfl) (F := fun k x => gradineref09_Field.f x.1) (m := m_gradineref09_Field) (fun k x => rfl)
  (by exact trivial)
  (fun k ⟨(a0 : Int), _⟩ => by show LeT m_gradineref09_Field (gradineref09_Field.f a0) _; unfold gradineref09_Field.f; exact go)
end
section
def s_gradineref09_Rest : FSpec := ⟨[.int .u64], [.int .u64], fun _ x => (gradineref09_Rest.f x.1).map fun r => (r, ())⟩
def m_gradineref09_Rest (r : Int) : TT s_gradineref09_Rest.rs := (r, ())
theorem o_gradineref09_Rest : FOk Try.prog 62 s_gradineref09_Rest :=
 fn_of (Bt := blook []) (l := []) (C := noCuts) (by kernel_rfl) tab_ok trivial (fn := Try.f62) (by kernel_rfl) rfl (by kernel_rfl) (by decide) (by kernel_rfl) (F := fun k x => gradineref09_Rest.f x.1) (m := m_gradineref09_Rest) (fun k x => rfl)
  (by exact trivial)
  (fun k ⟨(a0 : Int), _⟩ => by show LeT m_gradineref09_Rest (gradineref09_Rest.f a0) _; unfold gradineref09_Rest.f; exact go)
end
section
attribute [local irreducible] gradineref09_Field.f gradineref09_Rest.f
def s_gradineref09_Kind : FSpec := ⟨[.int .u64], [.int .i64], fun _ x => (gradineref09_Kind.f x.1).map fun r => (r, ())⟩
def m_gradineref09_Kind (r : Int) : TT s_gradineref09_Kind.rs := (r, ())
theorem o_gradineref09_Kind : FOk Try.prog 13 s_gradineref09_Kind :=
 fn_of (Bt := blook []) (l := [(61, .pu s_gradineref09_Field), (62, .pu s_gradineref09_Rest)]) (C := noCuts) (by kernel_rfl) tab_ok ⟨o_gradineref09_Field, o_gradineref09_Rest, trivial⟩ (fn := Try.f13) (by kernel_rfl) rfl (by kernel_rfl) (by decide) (by kernel_rfl) (F := fun k x => gradineref09_Kind.f x.1) (m := m_gradineref09_Kind) (fun k x => rfl)
  (by exact trivial)
  (fun k ⟨(a0 : Int), _⟩ => by show LeT m_gradineref09_Kind (gradineref09_Kind.f a0) _; unfold gradineref09_Kind.f; exact go)
end
section
def s_gradineref09_Neg : FSpec := ⟨[.int .u64], [.bool], fun _ x => (gradineref09_Neg.f x.1).map fun r => (r, ())⟩
def m_gradineref09_Neg (r : Bool) : TT s_gradineref09_Neg.rs := (r, ())
theorem o_gradineref09_Neg : FOk Try.prog 14 s_gradineref09_Neg :=
 fn_of (Bt := blook []) (l := []) (C := noCuts) (by kernel_rfl) tab_ok trivial (fn := Try.f14) (by kernel_rfl) rfl (by kernel_rfl) (by decide) (by kernel_rfl) (F := fun k x => gradineref09_Neg.f x.1) (m := m_gradineref09_Neg) (fun k x => rfl)
  (by exact trivial)
  (fun k ⟨(a0 : Int), _⟩ => by show LeT m_gradineref09_Neg (gradineref09_Neg.f a0) _; unfold gradineref09_Neg.f; exact go)
end
section
attribute [local irreducible] gradineref09_Kind.f gradineref09_Neg.f
def s_gradineref13_Less : FSpec := ⟨[.int .u64, .int .u64], [.bool], fun k x => (gradineref13_Less.f k x.1 x.2.1).map fun r => (r, ())⟩
def m_gradineref13_Less (r : Bool) : TT s_gradineref13_Less.rs := (r, ())
@[reducible] def q0_gradineref13_Less : List Slot := [.tmp 0 [.ty (.int .u64)], .tmp 1 [.ty (.int .u64)], .tmp 14 [.ty .bool]]
def g0_gradineref13_Less (k : Nat) (x : TS q0_gradineref13_Less) : Option (Bool) := gradineref13_Less.j0 k x.1.1 x.2.1.1 x.2.2.1.1
@[reducible] def q1_gradineref13_Less : List Slot := [.tmp 0 [.ty (.int .u64)], .tmp 1 [.ty (.int .u64)], .tmp 5 [.ty .bool], .tmp 6 [.ty .bool], .tmp 22 [.ty .bool]]
def g1_gradineref13_Less (k : Nat) (x : TS q1_gradineref13_Less) : Option (Bool) := gradineref13_Less.j1 k x.1.1 x.2.1.1 x.2.2.1.1 x.2.2.2.1.1 x.2.2.2.2.1.1
def c_gradineref13_Less : Cuts (TT s_gradineref13_Less.rs) := ⟨⟨40, 40, []⟩, lookC [], lookC [], lookC [(1, ⟨q0_gradineref13_Less, fun k x => (g0_gradineref13_Less k x).map m_gradineref13_Less⟩), (4, ⟨q1_gradineref13_Less, fun k x => (g1_gradineref13_Less k x).map m_gradineref13_Less⟩)]⟩
theorem o_gradineref13_Less : FOk Try.prog 15 s_gradineref13_Less :=
 fn_of (Bt := blook []) (l := [(13, .pu s_gradineref09_Kind), (14, .pu s_gradineref09_Neg)]) (C := c_gradineref13_Less) (by kernel_rfl) tab_ok ⟨o_gradineref09_Kind, o_gradineref09_Neg, trivial⟩ (fn := Try.f15) (by kernel_rfl) rfl (by kernel_rfl) (by decide) (by kernel_rfl) (F := fun k x => gradineref13_Less.f k x.1 x.2.1) (m := m_gradineref13_Less) (fun k x => rfl)
  (by
   refine And.intro ?_ ?_
   ·refine ob_join1 (sl := q0_gradineref13_Less) (F := g0_gradineref13_Less) (fun x => rfl) fun k ⟨⟨(x0 : Int), _⟩, ⟨(x1 : Int), _⟩, ⟨(x14 : Bool), _⟩, _⟩ => ?_
    show LeT m_gradineref13_Less (gradineref13_Less.j0 (k + 1) x0 x1 x14) _
    rw [gradineref13_Less.j0]; exact go
   refine And.intro ?_ ?_
   ·refine ob_join1 (sl := q1_gradineref13_Less) (F := g1_gradineref13_Less) (fun x => rfl) fun k ⟨⟨(x0 : Int), _⟩, ⟨(x1 : Int), _⟩, ⟨(x5 : Bool), _⟩, ⟨(x6 : Bool), _⟩, ⟨(x22 : Bool), _⟩, _⟩ => ?_
    show LeT m_gradineref13_Less (gradineref13_Less.j1 (k + 1) x0 x1 x5 x6 x22) _
    rw [gradineref13_Less.j1]; exact go
   exact trivial)
  (fun k ⟨(a0 : Int), (a1 : Int), _⟩ => by show LeT m_gradineref13_Less (gradineref13_Less.f k a0 a1) _; unfold gradineref13_Less.f; exact go)
end
section
def s_gradineref09_Nan : FSpec := ⟨[], [.int .u64], fun _ _ => (gradineref09_Nan.f).map fun r => (r, ())⟩
def m_gradineref09_Nan (r : Int) : TT s_gradineref09_Nan.rs := (r, ())
theorem o_gradineref09_Nan : FOk Try.prog 47 s_gradineref09_Nan :=
 fn_of (Bt := blook []) (l := []) (C := noCuts) (by kernel_rfl) tab_ok trivial (fn := Try.f47) (by kernel_rfl) rfl (by kernel_rfl) (by decide) (by kernel_rfl) (F := fun k x => gradineref09_Nan.f) (m := m_gradineref09_Nan) (fun k x => rfl)
  (by exact trivial)
  (fun k x => by show LeT m_gradineref09_Nan (gradineref09_Nan.f) _; unfold gradineref09_Nan.f; exact go)
end
section
def s_gradineref02_Size : FSpec := ⟨[(.row 22 (.int .u64))], [.int .i64], fun k x => (gradineref02_Size.f k x.1).map fun r => (r, ())⟩
def m_gradineref02_Size (r : Int) : TT s_gradineref02_Size.rs := (r, ())
@[reducible] def q0_gradineref02_Size : List Slot := [.tmp 0 [.ty (.row 22 (.int .u64))], .tmp 3 [.ty (.int .i64)]]
def g0_gradineref02_Size (k : Nat) (x : TS q0_gradineref02_Size) : Option (Int) := gradineref02_Size.l0 k x.1.1 x.2.1.1
def c_gradineref02_Size : Cuts (TT s_gradineref02_Size.rs) := ⟨⟨19, 19, []⟩, lookC [(0, ⟨q0_gradineref02_Size, fun k x => (g0_gradineref02_Size k x).map m_gradineref02_Size⟩)], lookC [], lookC []⟩
theorem o_gradineref02_Size : FOk Try.prog 76 s_gradineref02_Size :=
 fn_of (Bt := blook []) (l := []) (C := c_gradineref02_Size) (by kernel_rfl) tab_ok trivial (fn := Try.f76) (by kernel_rfl) rfl (by kernel_rfl) (by decide) (by kernel_rfl) (F := fun k x => gradineref02_Size.f k x.1) (m := m_gradineref02_Size) (fun k x => rfl)
  (by
   refine And.intro ?_ ?_
   ·refine ob_loop (sl := q0_gradineref02_Size) (F := g0_gradineref02_Size) (fun x => rfl) fun k ⟨⟨(x0 : List Int), _⟩, ⟨(x3 : Int), _⟩, _⟩ => ?_
    show LeT m_gradineref02_Size (gradineref02_Size.l0 (k + 1) x0 x3) _
    rw [gradineref02_Size.l0]; exact go
   exact trivial)
  (fun k ⟨(a0 : List Int), _⟩ => by show LeT m_gradineref02_Size (gradineref02_Size.f k a0) _; unfold gradineref02_Size.f; exact go)
end
section
attribute [local irreducible] gradineref02_Size.f
def s_gradineref02_Trim : FSpec := ⟨[(.row 22 (.int .u64))], [(.row 22 (.int .u64))], fun k x => (gradineref02_Trim.f k x.1).map fun r => (r, ())⟩
def m_gradineref02_Trim (r : List Int) : TT s_gradineref02_Trim.rs := (r, ())
@[reducible] def q0_gradineref02_Trim : List Slot := [.tmp 0 [.ty (.row 22 (.int .u64))], .tmp 3 [.own .mine 3 22 (.int .u64)], .tmp 6 [.ty (.int .i64)], .tmp 7 [.ty (.int .i64)]]
def g0_gradineref02_Trim (k : Nat) (x : TS q0_gradineref02_Trim) : Option (List Int) := gradineref02_Trim.l0 k x.1.1 x.2.1.1 x.2.2.1.1 x.2.2.2.1.1
def c_gradineref02_Trim : Cuts (TT s_gradineref02_Trim.rs) := ⟨⟨19, 19, []⟩, lookC [(0, ⟨q0_gradineref02_Trim, fun k x => (g0_gradineref02_Trim k x).map m_gradineref02_Trim⟩)], lookC [], lookC []⟩
theorem o_gradineref02_Trim : FOk Try.prog 137 s_gradineref02_Trim :=
 fn_of (Bt := blook []) (l := [(76, .pu s_gradineref02_Size)]) (C := c_gradineref02_Trim) (by kernel_rfl) tab_ok ⟨o_gradineref02_Size, trivial⟩ (fn := Try.f137) (by kernel_rfl) rfl (by kernel_rfl) (by decide) (by kernel_rfl) (F := fun k x => gradineref02_Trim.f k x.1) (m := m_gradineref02_Trim) (fun k x => rfl)
  (by
   refine And.intro ?_ ?_
   ·refine ob_loop (sl := q0_gradineref02_Trim) (F := g0_gradineref02_Trim) (fun x => rfl) fun k ⟨⟨(x0 : List Int), _⟩, ⟨(x3 : List Int), _⟩, ⟨(x6 : Int), _⟩, ⟨(x7 : Int), _⟩, _⟩ => ?_
    show LeT m_gradineref02_Trim (gradineref02_Trim.l0 (k + 1) x0 x3 x6 x7) _
    rw [gradineref02_Trim.l0]; exact go
   exact trivial)
  (fun k ⟨(a0 : List Int), _⟩ => by show LeT m_gradineref02_Trim (gradineref02_Trim.f k a0) _; unfold gradineref02_Trim.f; exact go)
end
section
attribute [local irreducible] gradineref02_Trim.f
def s_gradineref02_Shl : FSpec := ⟨[(.row 22 (.int .u64)), .int .i64], [(.row 22 (.int .u64))], fun k x => (gradineref02_Shl.f k x.1 x.2.1).map fun r => (r, ())⟩
def m_gradineref02_Shl (r : List Int) : TT s_gradineref02_Shl.rs := (r, ())
@[reducible] def q0_gradineref02_Shl : List Slot := [.tmp 0 [.ty (.row 22 (.int .u64))], .tmp 1 [.ty (.int .i64)], .tmp 5 [.own .mine 5 22 (.int .u64)], .tmp 13 [.ty (.int .i64)], .tmp 14 [.ty (.int .i64)]]
def g0_gradineref02_Shl (k : Nat) (x : TS q0_gradineref02_Shl) : Option (List Int) := match x with | ⟨⟨(x0 : List Int), _⟩, ⟨(x1 : Int), _⟩, ⟨(x5 : List Int), _⟩, ⟨(x13 : Int), _⟩, ⟨(x14 : Int), _⟩, _⟩ => if 0 ≤ x1 ∧ x1 ≤ 65536 then gradineref02_Shl.l0 k x0 x1 x5 x13 x14 else none
@[reducible] def q1_gradineref02_Shl : List Slot := [.tmp 0 [.ty (.row 22 (.int .u64))], .tmp 1 [.ty (.int .i64)], .tmp 5 [.own .mine 5 22 (.int .u64)], .tmp 21 [.ty (.int .i64)], .tmp 22 [.ty (.int .i64)]]
def g1_gradineref02_Shl (k : Nat) (x : TS q1_gradineref02_Shl) : Option (List Int) := match x with | ⟨⟨(x0 : List Int), _⟩, ⟨(x1 : Int), _⟩, ⟨(x5 : List Int), _⟩, ⟨(x21 : Int), _⟩, ⟨(x22 : Int), _⟩, _⟩ => if 0 ≤ x1 ∧ x1 ≤ 65536 then gradineref02_Shl.l1 k x0 x1 x5 x21 x22 else none
@[reducible] def q2_gradineref02_Shl : List Slot := [.tmp 5 [.own .mine 5 22 (.int .u64)], .tmp 7 [.ty (.int .u64)], .tmp 8 [.ty (.int .i64)]]
def g2_gradineref02_Shl (k : Nat) (x : TS q2_gradineref02_Shl) : Option (List Int) := match x with | ⟨⟨(x5 : List Int), _⟩, ⟨(x7 : Int), _⟩, ⟨(x8 : Int), _⟩, _⟩ => if 0 ≤ x7 ∧ x7 < 64 then gradineref02_Shl.l2 k x5 x7 x8 else none
def c_gradineref02_Shl : Cuts (TT s_gradineref02_Shl.rs) := ⟨⟨78, 78, []⟩, lookC [(0, ⟨q0_gradineref02_Shl, fun k x => (g0_gradineref02_Shl k x).map m_gradineref02_Shl⟩), (1, ⟨q1_gradineref02_Shl, fun k x => (g1_gradineref02_Shl k x).map m_gradineref02_Shl⟩), (2, ⟨q2_gradineref02_Shl, fun k x => (g2_gradineref02_Shl k x).map m_gradineref02_Shl⟩)], lookC [], lookC []⟩
theorem o_gradineref02_Shl : FOk Try.prog 73 s_gradineref02_Shl :=
 fn_of (Bt := blook [(19, [0, 0, 0, 0, 12, 28, 0, 124, 0, 0, 512, 1792, 3840, 0, 8192, 32512, 65532, 131071, 262143])]) (l := [(137, .pu s_gradineref02_Trim)]) (C := c_gradineref02_Shl) (by kernel_rfl) tab_ok ⟨o_gradineref02_Trim, trivial⟩ (fn := Try.f73) (by kernel_rfl) rfl (by kernel_rfl) (by decide) (by kernel_rfl) (F := fun k x => gradineref02_Shl.f k x.1 x.2.1) (m := m_gradineref02_Shl) (fun k x => rfl)
  (by
   refine And.intro ?_ ?_
   ·refine ob_loop (sl := q0_gradineref02_Shl) (F := g0_gradineref02_Shl) (fun ⟨⟨(x0 : List Int), _⟩, ⟨(x1 : Int), _⟩, ⟨(x5 : List Int), _⟩, ⟨(x13 : Int), _⟩, ⟨(x14 : Int), _⟩, _⟩ => by show (if 0 ≤ x1 ∧ x1 ≤ 65536 then gradineref02_Shl.l0 0 x0 x1 x5 x13 x14 else none) = none; split <;> rfl) fun k ⟨⟨(x0 : List Int), _⟩, ⟨(x1 : Int), _⟩, ⟨(x5 : List Int), _⟩, ⟨(x13 : Int), _⟩, ⟨(x14 : Int), _⟩, _⟩ => ?_
    show LeT m_gradineref02_Shl (if 0 ≤ x1 ∧ x1 ≤ 65536 then gradineref02_Shl.l0 (k + 1) x0 x1 x5 x13 x14 else none) _
    rw [gradineref02_Shl.l0]; exact go
   refine And.intro ?_ ?_
   ·refine ob_loop (sl := q1_gradineref02_Shl) (F := g1_gradineref02_Shl) (fun ⟨⟨(x0 : List Int), _⟩, ⟨(x1 : Int), _⟩, ⟨(x5 : List Int), _⟩, ⟨(x21 : Int), _⟩, ⟨(x22 : Int), _⟩, _⟩ => by show (if 0 ≤ x1 ∧ x1 ≤ 65536 then gradineref02_Shl.l1 0 x0 x1 x5 x21 x22 else none) = none; split <;> rfl) fun k ⟨⟨(x0 : List Int), _⟩, ⟨(x1 : Int), _⟩, ⟨(x5 : List Int), _⟩, ⟨(x21 : Int), _⟩, ⟨(x22 : Int), _⟩, _⟩ => ?_
    show LeT m_gradineref02_Shl (if 0 ≤ x1 ∧ x1 ≤ 65536 then gradineref02_Shl.l1 (k + 1) x0 x1 x5 x21 x22 else none) _
    rw [gradineref02_Shl.l1]; exact go
   refine And.intro ?_ ?_
   ·refine ob_loop (sl := q2_gradineref02_Shl) (F := g2_gradineref02_Shl) (fun ⟨⟨(x5 : List Int), _⟩, ⟨(x7 : Int), _⟩, ⟨(x8 : Int), _⟩, _⟩ => by show (if 0 ≤ x7 ∧ x7 < 64 then gradineref02_Shl.l2 0 x5 x7 x8 else none) = none; split <;> rfl) fun k ⟨⟨(x5 : List Int), _⟩, ⟨(x7 : Int), _⟩, ⟨(x8 : Int), _⟩, _⟩ => ?_
    show LeT m_gradineref02_Shl (if 0 ≤ x7 ∧ x7 < 64 then gradineref02_Shl.l2 (k + 1) x5 x7 x8 else none) _
    rw [gradineref02_Shl.l2]; exact go
   exact trivial)
  (fun k ⟨(a0 : List Int), (a1 : Int), _⟩ => by show LeT m_gradineref02_Shl (gradineref02_Shl.f k a0 a1) _; unfold gradineref02_Shl.f; exact go)
end
section
def s_gradineref02_at : FSpec := ⟨[(.row 22 (.int .u64)), .int .i64], [.int .u64], fun _ x => (gradineref02_at.f x.1 x.2.1).map fun r => (r, ())⟩
def m_gradineref02_at (r : Int) : TT s_gradineref02_at.rs := (r, ())
theorem o_gradineref02_at : FOk Try.prog 143 s_gradineref02_at :=
 fn_of (Bt := blook []) (l := []) (C := noCuts) (by kernel_rfl) tab_ok trivial (fn := Try.f143) (by kernel_rfl) rfl (by kernel_rfl) (by decide) (by kernel_rfl) (F := fun k x => gradineref02_at.f x.1 x.2.1) (m := m_gradineref02_at) (fun k x => rfl)
  (by exact trivial)
  (fun k ⟨(a0 : List Int), (a1 : Int), _⟩ => by show LeT m_gradineref02_at (gradineref02_at.f a0 a1) _; unfold gradineref02_at.f; exact go)
end
section
attribute [local irreducible] gradineref02_at.f
def s_gradineref02_Cmp : FSpec := ⟨[(.row 22 (.int .u64)), (.row 22 (.int .u64))], [.int .i64], fun k x => (gradineref02_Cmp.f k x.1 x.2.1).map fun r => (r, ())⟩
def m_gradineref02_Cmp (r : Int) : TT s_gradineref02_Cmp.rs := (r, ())
@[reducible] def q0_gradineref02_Cmp : List Slot := [.tmp 0 [.ty (.row 22 (.int .u64))], .tmp 1 [.ty (.row 22 (.int .u64))], .tmp 6 [.ty (.int .i64)]]
def g0_gradineref02_Cmp (k : Nat) (x : TS q0_gradineref02_Cmp) : Option (Int) := gradineref02_Cmp.l0 k x.1.1 x.2.1.1 x.2.2.1.1
def c_gradineref02_Cmp : Cuts (TT s_gradineref02_Cmp.rs) := ⟨⟨32, 32, []⟩, lookC [(0, ⟨q0_gradineref02_Cmp, fun k x => (g0_gradineref02_Cmp k x).map m_gradineref02_Cmp⟩)], lookC [], lookC []⟩
theorem o_gradineref02_Cmp : FOk Try.prog 81 s_gradineref02_Cmp :=
 fn_of (Bt := blook []) (l := [(143, .pu s_gradineref02_at)]) (C := c_gradineref02_Cmp) (by kernel_rfl) tab_ok ⟨o_gradineref02_at, trivial⟩ (fn := Try.f81) (by kernel_rfl) rfl (by kernel_rfl) (by decide) (by kernel_rfl) (F := fun k x => gradineref02_Cmp.f k x.1 x.2.1) (m := m_gradineref02_Cmp) (fun k x => rfl)
  (by
   refine And.intro ?_ ?_
   ·refine ob_loop (sl := q0_gradineref02_Cmp) (F := g0_gradineref02_Cmp) (fun x => rfl) fun k ⟨⟨(x0 : List Int), _⟩, ⟨(x1 : List Int), _⟩, ⟨(x6 : Int), _⟩, _⟩ => ?_
    show LeT m_gradineref02_Cmp (gradineref02_Cmp.l0 (k + 1) x0 x1 x6) _
    rw [gradineref02_Cmp.l0]; exact go
   exact trivial)
  (fun k ⟨(a0 : List Int), (a1 : List Int), _⟩ => by show LeT m_gradineref02_Cmp (gradineref02_Cmp.f k a0 a1) _; unfold gradineref02_Cmp.f; exact go)
end
section
attribute [local irreducible] gradineref02_Trim.f
def s_gradineref02_Halves : FSpec := ⟨[(.row 22 (.int .u64))], [(.row 22 (.int .u64))], fun k x => (gradineref02_Halves.f k x.1).map fun r => (r, ())⟩
def m_gradineref02_Halves (r : List Int) : TT s_gradineref02_Halves.rs := (r, ())
@[reducible] def q0_gradineref02_Halves : List Slot := [.tmp 0 [.ty (.row 22 (.int .u64))], .tmp 3 [.own .mine 3 22 (.int .u64)], .tmp 6 [.ty (.int .i64)], .tmp 7 [.ty (.int .i64)]]
def g0_gradineref02_Halves (k : Nat) (x : TS q0_gradineref02_Halves) : Option (List Int) := gradineref02_Halves.l0 k x.1.1 x.2.1.1 x.2.2.1.1 x.2.2.2.1.1
def c_gradineref02_Halves : Cuts (TT s_gradineref02_Halves.rs) := ⟨⟨29, 29, []⟩, lookC [(0, ⟨q0_gradineref02_Halves, fun k x => (g0_gradineref02_Halves k x).map m_gradineref02_Halves⟩)], lookC [], lookC []⟩
theorem o_gradineref02_Halves : FOk Try.prog 141 s_gradineref02_Halves :=
 fn_of (Bt := blook []) (l := [(137, .pu s_gradineref02_Trim)]) (C := c_gradineref02_Halves) (by kernel_rfl) tab_ok ⟨o_gradineref02_Trim, trivial⟩ (fn := Try.f141) (by kernel_rfl) rfl (by kernel_rfl) (by decide) (by kernel_rfl) (F := fun k x => gradineref02_Halves.f k x.1) (m := m_gradineref02_Halves) (fun k x => rfl)
  (by
   refine And.intro ?_ ?_
   ·refine ob_loop (sl := q0_gradineref02_Halves) (F := g0_gradineref02_Halves) (fun x => rfl) fun k ⟨⟨(x0 : List Int), _⟩, ⟨(x3 : List Int), _⟩, ⟨(x6 : Int), _⟩, ⟨(x7 : Int), _⟩, _⟩ => ?_
    show LeT m_gradineref02_Halves (gradineref02_Halves.l0 (k + 1) x0 x3 x6 x7) _
    rw [gradineref02_Halves.l0]; exact go
   exact trivial)
  (fun k ⟨(a0 : List Int), _⟩ => by show LeT m_gradineref02_Halves (gradineref02_Halves.f k a0) _; unfold gradineref02_Halves.f; exact go)
end
section
attribute [local irreducible] gradineref02_Trim.f
def s_gradineref02_Whole : FSpec := ⟨[(.row 22 (.int .u64))], [(.row 22 (.int .u64))], fun k x => (gradineref02_Whole.f k x.1).map fun r => (r, ())⟩
def m_gradineref02_Whole (r : List Int) : TT s_gradineref02_Whole.rs := (r, ())
@[reducible] def q0_gradineref02_Whole : List Slot := [.tmp 0 [.ty (.row 22 (.int .u64))], .tmp 3 [.own .mine 3 22 (.int .u64)], .tmp 4 [.ty (.int .i64)]]
def g0_gradineref02_Whole (k : Nat) (x : TS q0_gradineref02_Whole) : Option (List Int) := gradineref02_Whole.l0 k x.1.1 x.2.1.1 x.2.2.1.1
def c_gradineref02_Whole : Cuts (TT s_gradineref02_Whole.rs) := ⟨⟨35, 35, []⟩, lookC [(0, ⟨q0_gradineref02_Whole, fun k x => (g0_gradineref02_Whole k x).map m_gradineref02_Whole⟩)], lookC [], lookC []⟩
theorem o_gradineref02_Whole : FOk Try.prog 142 s_gradineref02_Whole :=
 fn_of (Bt := blook []) (l := [(137, .pu s_gradineref02_Trim)]) (C := c_gradineref02_Whole) (by kernel_rfl) tab_ok ⟨o_gradineref02_Trim, trivial⟩ (fn := Try.f142) (by kernel_rfl) rfl (by kernel_rfl) (by decide) (by kernel_rfl) (F := fun k x => gradineref02_Whole.f k x.1) (m := m_gradineref02_Whole) (fun k x => rfl)
  (by
   refine And.intro ?_ ?_
   ·refine ob_loop (sl := q0_gradineref02_Whole) (F := g0_gradineref02_Whole) (fun x => rfl) fun k ⟨⟨(x0 : List Int), _⟩, ⟨(x3 : List Int), _⟩, ⟨(x4 : Int), _⟩, _⟩ => ?_
    show LeT m_gradineref02_Whole (gradineref02_Whole.l0 (k + 1) x0 x3 x4) _
    rw [gradineref02_Whole.l0]; exact go
   exact trivial)
  (fun k ⟨(a0 : List Int), _⟩ => by show LeT m_gradineref02_Whole (gradineref02_Whole.f k a0) _; unfold gradineref02_Whole.f; exact go)
end
section
attribute [local irreducible] gradineref02_Halves.f gradineref02_Whole.f gradineref02_at.f
def s_gradineref02_Sub : FSpec := ⟨[(.row 22 (.int .u64)), (.row 22 (.int .u64))], [(.row 22 (.int .u64))], fun k x => (gradineref02_Sub.f k x.1 x.2.1).map fun r => (r, ())⟩
def m_gradineref02_Sub (r : List Int) : TT s_gradineref02_Sub.rs := (r, ())
@[reducible] def q0_gradineref02_Sub : List Slot := [.tmp 5 [.ty (.row 22 (.int .u64))], .tmp 6 [.ty (.row 22 (.int .u64))], .tmp 7 [.own .mine 7 22 (.int .u64)], .tmp 8 [.ty (.int .u64)], .tmp 16 [.ty (.int .i64)], .tmp 17 [.ty (.int .i64)]]
def g0_gradineref02_Sub (k : Nat) (x : TS q0_gradineref02_Sub) : Option (List Int) := gradineref02_Sub.l0 k x.1.1 x.2.1.1 x.2.2.1.1 x.2.2.2.1.1 x.2.2.2.2.1.1 x.2.2.2.2.2.1.1
def c_gradineref02_Sub : Cuts (TT s_gradineref02_Sub.rs) := ⟨⟨42, 42, []⟩, lookC [(0, ⟨q0_gradineref02_Sub, fun k x => (g0_gradineref02_Sub k x).map m_gradineref02_Sub⟩)], lookC [], lookC []⟩
theorem o_gradineref02_Sub : FOk Try.prog 82 s_gradineref02_Sub :=
 fn_of (Bt := blook [(7, [0, 0, 3, 7, 15, 0, 0, 96, 255, 0, 1023, 2047])]) (l := [(141, .pu s_gradineref02_Halves), (142, .pu s_gradineref02_Whole), (143, .pu s_gradineref02_at)]) (C := c_gradineref02_Sub) (by kernel_rfl) tab_ok ⟨o_gradineref02_Halves, o_gradineref02_Whole, o_gradineref02_at, trivial⟩ (fn := Try.f82) (by kernel_rfl) rfl (by kernel_rfl) (by decide) (by kernel_rfl) (F := fun k x => gradineref02_Sub.f k x.1 x.2.1) (m := m_gradineref02_Sub) (fun k x => rfl)
  (by
   refine And.intro ?_ ?_
   ·refine ob_loop (sl := q0_gradineref02_Sub) (F := g0_gradineref02_Sub) (fun x => rfl) fun k ⟨⟨(x5 : List Int), _⟩, ⟨(x6 : List Int), _⟩, ⟨(x7 : List Int), _⟩, ⟨(x8 : Int), _⟩, ⟨(x16 : Int), _⟩, ⟨(x17 : Int), _⟩, _⟩ => ?_
    show LeT m_gradineref02_Sub (gradineref02_Sub.l0 (k + 1) x5 x6 x7 x8 x16 x17) _
    rw [gradineref02_Sub.l0]; exact go
   exact trivial)
  (fun k ⟨(a0 : List Int), (a1 : List Int), _⟩ => by show LeT m_gradineref02_Sub (gradineref02_Sub.f k a0 a1) _; unfold gradineref02_Sub.f; exact go)
end
section
attribute [local irreducible] gradineref02_Trim.f
def s_gradineref02_Shr : FSpec := ⟨[(.row 22 (.int .u64)), .int .i64], [(.row 22 (.int .u64))], fun k x => (gradineref02_Shr.f k x.1 x.2.1).map fun r => (r, ())⟩
def m_gradineref02_Shr (r : List Int) : TT s_gradineref02_Shr.rs := (r, ())
@[reducible] def q0_gradineref02_Shr : List Slot := [.tmp 0 [.ty (.row 22 (.int .u64))], .tmp 1 [.ty (.int .i64)], .tmp 5 [.own .mine 5 22 (.int .u64)], .tmp 6 [.ty (.int .i64)]]
def g0_gradineref02_Shr (k : Nat) (x : TS q0_gradineref02_Shr) : Option (List Int) := match x with | ⟨⟨(x0 : List Int), _⟩, ⟨(x1 : Int), _⟩, ⟨(x5 : List Int), _⟩, ⟨(x6 : Int), _⟩, _⟩ => if 0 ≤ x1 then gradineref02_Shr.l0 k x0 x1 x5 x6 else none
@[reducible] def q1_gradineref02_Shr : List Slot := [.tmp 5 [.own .mine 5 22 (.int .u64)], .tmp 7 [.ty (.int .u64)], .tmp 35 [.ty (.int .i64)], .tmp 36 [.ty (.int .i64)]]
def g1_gradineref02_Shr (k : Nat) (x : TS q1_gradineref02_Shr) : Option (List Int) := match x with | ⟨⟨(x5 : List Int), _⟩, ⟨(x7 : Int), _⟩, ⟨(x35 : Int), _⟩, ⟨(x36 : Int), _⟩, _⟩ => if 0 ≤ x7 ∧ x7 < 64 then gradineref02_Shr.l1 k x5 x7 x35 x36 else none
def c_gradineref02_Shr : Cuts (TT s_gradineref02_Shr.rs) := ⟨⟨72, 72, []⟩, lookC [(0, ⟨q0_gradineref02_Shr, fun k x => (g0_gradineref02_Shr k x).map m_gradineref02_Shr⟩), (1, ⟨q1_gradineref02_Shr, fun k x => (g1_gradineref02_Shr k x).map m_gradineref02_Shr⟩)], lookC [], lookC []⟩
theorem o_gradineref02_Shr : FOk Try.prog 115 s_gradineref02_Shr :=
 fn_of (Bt := blook [(15, [0, 0, 0, 0, 12, 28, 0, 0, 128, 448, 960, 0, 2048, 8128, 16380, 32767, 65535])]) (l := [(137, .pu s_gradineref02_Trim)]) (C := c_gradineref02_Shr) (by kernel_rfl) tab_ok ⟨o_gradineref02_Trim, trivial⟩ (fn := Try.f115) (by kernel_rfl) rfl (by kernel_rfl) (by decide) (by kernel_rfl) (F := fun k x => gradineref02_Shr.f k x.1 x.2.1) (m := m_gradineref02_Shr) (fun k x => rfl)
  (by
   refine And.intro ?_ ?_
   ·refine ob_loop (sl := q0_gradineref02_Shr) (F := g0_gradineref02_Shr) (fun ⟨⟨(x0 : List Int), _⟩, ⟨(x1 : Int), _⟩, ⟨(x5 : List Int), _⟩, ⟨(x6 : Int), _⟩, _⟩ => by show (if 0 ≤ x1 then gradineref02_Shr.l0 0 x0 x1 x5 x6 else none) = none; split <;> rfl) fun k ⟨⟨(x0 : List Int), _⟩, ⟨(x1 : Int), _⟩, ⟨(x5 : List Int), _⟩, ⟨(x6 : Int), _⟩, _⟩ => ?_
    show LeT m_gradineref02_Shr (if 0 ≤ x1 then gradineref02_Shr.l0 (k + 1) x0 x1 x5 x6 else none) _
    rw [gradineref02_Shr.l0]; exact go
   refine And.intro ?_ ?_
   ·refine ob_loop (sl := q1_gradineref02_Shr) (F := g1_gradineref02_Shr) (fun ⟨⟨(x5 : List Int), _⟩, ⟨(x7 : Int), _⟩, ⟨(x35 : Int), _⟩, ⟨(x36 : Int), _⟩, _⟩ => by show (if 0 ≤ x7 ∧ x7 < 64 then gradineref02_Shr.l1 0 x5 x7 x35 x36 else none) = none; split <;> rfl) fun k ⟨⟨(x5 : List Int), _⟩, ⟨(x7 : Int), _⟩, ⟨(x35 : Int), _⟩, ⟨(x36 : Int), _⟩, _⟩ => ?_
    show LeT m_gradineref02_Shr (if 0 ≤ x7 ∧ x7 < 64 then gradineref02_Shr.l1 (k + 1) x5 x7 x35 x36 else none) _
    rw [gradineref02_Shr.l1]; exact go
   exact trivial)
  (fun k ⟨(a0 : List Int), (a1 : Int), _⟩ => by show LeT m_gradineref02_Shr (gradineref02_Shr.f k a0 a1) _; unfold gradineref02_Shr.f; exact go)
end
section
def s_gradineref02_Bit : FSpec := ⟨[(.row 22 (.int .u64)), .int .i64], [.bool], fun _ x => (gradineref02_Bit.f x.1 x.2.1).map fun r => (r, ())⟩
def m_gradineref02_Bit (r : Bool) : TT s_gradineref02_Bit.rs := (r, ())
theorem o_gradineref02_Bit : FOk Try.prog 162 s_gradineref02_Bit :=
 fn_of (Bt := blook []) (l := []) (C := noCuts) (by kernel_rfl) tab_ok trivial (fn := Try.f162) (by kernel_rfl) rfl (by kernel_rfl) (by decide) (by kernel_rfl) (F := fun k x => gradineref02_Bit.f x.1 x.2.1) (m := m_gradineref02_Bit) (fun k x => rfl)
  (by exact trivial)
  (fun k ⟨(a0 : List Int), (a1 : Int), _⟩ => by show LeT m_gradineref02_Bit (gradineref02_Bit.f a0 a1) _; unfold gradineref02_Bit.f; exact go)
end
section
attribute [local irreducible] gradineref02_Size.f gradineref02_Bit.f
def s_gradineref02_Even : FSpec := ⟨[(.row 22 (.int .u64))], [.int .i64], fun k x => (gradineref02_Even.f k x.1).map fun r => (r, ())⟩
def m_gradineref02_Even (r : Int) : TT s_gradineref02_Even.rs := (r, ())
@[reducible] def q0_gradineref02_Even : List Slot := [.tmp 0 [.ty (.row 22 (.int .u64))], .tmp 3 [.ty (.int .i64)]]
def g0_gradineref02_Even (k : Nat) (x : TS q0_gradineref02_Even) : Option (Int) := gradineref02_Even.l0 k x.1.1 x.2.1.1
def c_gradineref02_Even : Cuts (TT s_gradineref02_Even.rs) := ⟨⟨14, 14, []⟩, lookC [(0, ⟨q0_gradineref02_Even, fun k x => (g0_gradineref02_Even k x).map m_gradineref02_Even⟩)], lookC [], lookC []⟩
theorem o_gradineref02_Even : FOk Try.prog 139 s_gradineref02_Even :=
 fn_of (Bt := blook []) (l := [(76, .pu s_gradineref02_Size), (162, .pu s_gradineref02_Bit)]) (C := c_gradineref02_Even) (by kernel_rfl) tab_ok ⟨o_gradineref02_Size, o_gradineref02_Bit, trivial⟩ (fn := Try.f139) (by kernel_rfl) rfl (by kernel_rfl) (by decide) (by kernel_rfl) (F := fun k x => gradineref02_Even.f k x.1) (m := m_gradineref02_Even) (fun k x => rfl)
  (by
   refine And.intro ?_ ?_
   ·refine ob_loop (sl := q0_gradineref02_Even) (F := g0_gradineref02_Even) (fun x => rfl) fun k ⟨⟨(x0 : List Int), _⟩, ⟨(x3 : Int), _⟩, _⟩ => ?_
    show LeT m_gradineref02_Even (gradineref02_Even.l0 (k + 1) x0 x3) _
    rw [gradineref02_Even.l0]; exact go
   exact trivial)
  (fun k ⟨(a0 : List Int), _⟩ => by show LeT m_gradineref02_Even (gradineref02_Even.f k a0) _; unfold gradineref02_Even.f; exact go)
end
section
attribute [local irreducible] gradineref02_Shl.f gradineref02_Size.f gradineref02_Cmp.f gradineref02_Sub.f gradineref02_Shr.f gradineref02_Trim.f gradineref02_Even.f
def s_gradineref05_Gcd : FSpec := ⟨[(.row 22 (.int .u64)), (.row 22 (.int .u64))], [(.row 22 (.int .u64))], fun k x => (gradineref05_Gcd.f k x.1 x.2.1).map fun r => (r, ())⟩
def m_gradineref05_Gcd (r : List Int) : TT s_gradineref05_Gcd.rs := (r, ())
@[reducible] def q0_gradineref05_Gcd : List Slot := [.tmp 0 [.ty (.row 22 (.int .u64))], .tmp 1 [.ty (.row 22 (.int .u64))], .tmp 28 [.ty .bool]]
def g0_gradineref05_Gcd (k : Nat) (x : TS q0_gradineref05_Gcd) : Option (List Int) := gradineref05_Gcd.j0 k x.1.1 x.2.1.1 x.2.2.1.1
@[reducible] def q1_gradineref05_Gcd : List Slot := [.tmp 5 [.ty (.int .u64)], .tmp 6 [.ty (.int .u64)]]
def g1_gradineref05_Gcd (k : Nat) (x : TS q1_gradineref05_Gcd) : Option (List Int) := gradineref05_Gcd.l0 k x.1.1 x.2.1.1
@[reducible] def q2_gradineref05_Gcd : List Slot := [.tmp 7 [.ty (.int .i64)], .tmp 8 [.ty (.row 22 (.int .u64))], .tmp 9 [.ty (.row 22 (.int .u64))]]
def g2_gradineref05_Gcd (k : Nat) (x : TS q2_gradineref05_Gcd) : Option (List Int) := gradineref05_Gcd.l1 k x.1.1 x.2.1.1 x.2.2.1.1
def c_gradineref05_Gcd : Cuts (TT s_gradineref05_Gcd.rs) := ⟨⟨75, 75, []⟩, lookC [(0, ⟨q1_gradineref05_Gcd, fun k x => (g1_gradineref05_Gcd k x).map m_gradineref05_Gcd⟩), (1, ⟨q2_gradineref05_Gcd, fun k x => (g2_gradineref05_Gcd k x).map m_gradineref05_Gcd⟩)], lookC [], lookC [(5, ⟨q0_gradineref05_Gcd, fun k x => (g0_gradineref05_Gcd k x).map m_gradineref05_Gcd⟩)]⟩
theorem o_gradineref05_Gcd : FOk Try.prog 77 s_gradineref05_Gcd :=
 fn_of (Bt := blook [(6, [0, 1, 3, 0, 8, 24, 7, 127]), (8, [0, 0, 0, 6, 3, 31])]) (l := [(73, .pu s_gradineref02_Shl), (76, .pu s_gradineref02_Size), (81, .pu s_gradineref02_Cmp), (82, .pu s_gradineref02_Sub), (115, .pu s_gradineref02_Shr), (137, .pu s_gradineref02_Trim), (139, .pu s_gradineref02_Even)]) (C := c_gradineref05_Gcd) (by kernel_rfl) tab_ok ⟨o_gradineref02_Shl, o_gradineref02_Size, o_gradineref02_Cmp, o_gradineref02_Sub, o_gradineref02_Shr, o_gradineref02_Trim, o_gradineref02_Even, trivial⟩ (fn := Try.f77) (by kernel_rfl) rfl (by kernel_rfl) (by decide) (by kernel_rfl) (F := fun k x => gradineref05_Gcd.f k x.1 x.2.1) (m := m_gradineref05_Gcd) (fun k x => rfl)
  (by
   refine And.intro ?_ ?_
   ·refine ob_join1 (sl := q0_gradineref05_Gcd) (F := g0_gradineref05_Gcd) (fun x => rfl) fun k ⟨⟨(x0 : List Int), _⟩, ⟨(x1 : List Int), _⟩, ⟨(x28 : Bool), _⟩, _⟩ => ?_
    show LeT m_gradineref05_Gcd (gradineref05_Gcd.j0 (k + 1) x0 x1 x28) _
    rw [gradineref05_Gcd.j0]; exact go
   refine And.intro ?_ ?_
   ·refine ob_loop (sl := q1_gradineref05_Gcd) (F := g1_gradineref05_Gcd) (fun x => rfl) fun k ⟨⟨(x5 : Int), _⟩, ⟨(x6 : Int), _⟩, _⟩ => ?_
    show LeT m_gradineref05_Gcd (gradineref05_Gcd.l0 (k + 1) x5 x6) _
    rw [gradineref05_Gcd.l0]; exact go
   refine And.intro ?_ ?_
   ·refine ob_loop (sl := q2_gradineref05_Gcd) (F := g2_gradineref05_Gcd) (fun x => rfl) fun k ⟨⟨(x7 : Int), _⟩, ⟨(x8 : List Int), _⟩, ⟨(x9 : List Int), _⟩, _⟩ => ?_
    show LeT m_gradineref05_Gcd (gradineref05_Gcd.l1 (k + 1) x7 x8 x9) _
    rw [gradineref05_Gcd.l1]; exact go
   exact trivial)
  (fun k ⟨(a0 : List Int), (a1 : List Int), _⟩ => by show LeT m_gradineref05_Gcd (gradineref05_Gcd.f k a0 a1) _; unfold gradineref05_Gcd.f; exact go)
end
section
def s_gradineref01_Len : FSpec := ⟨[.int .u64], [.int .i64], fun k x => (gradineref01_Len.f k x.1).map fun r => (r, ())⟩
def m_gradineref01_Len (r : Int) : TT s_gradineref01_Len.rs := (r, ())
@[reducible] def q0_gradineref01_Len : List Slot := [.tmp 0 [.ty (.int .u64)], .tmp 3 [.ty (.int .i64)]]
def g0_gradineref01_Len (k : Nat) (x : TS q0_gradineref01_Len) : Option (Int) := gradineref01_Len.l0 k x.1.1 x.2.1.1
def c_gradineref01_Len : Cuts (TT s_gradineref01_Len.rs) := ⟨⟨11, 11, []⟩, lookC [(0, ⟨q0_gradineref01_Len, fun k x => (g0_gradineref01_Len k x).map m_gradineref01_Len⟩)], lookC [], lookC []⟩
theorem o_gradineref01_Len : FOk Try.prog 164 s_gradineref01_Len :=
 fn_of (Bt := blook []) (l := []) (C := c_gradineref01_Len) (by kernel_rfl) tab_ok trivial (fn := Try.f164) (by kernel_rfl) rfl (by kernel_rfl) (by decide) (by kernel_rfl) (F := fun k x => gradineref01_Len.f k x.1) (m := m_gradineref01_Len) (fun k x => rfl)
  (by
   refine And.intro ?_ ?_
   ·refine ob_loop (sl := q0_gradineref01_Len) (F := g0_gradineref01_Len) (fun x => rfl) fun k ⟨⟨(x0 : Int), _⟩, ⟨(x3 : Int), _⟩, _⟩ => ?_
    show LeT m_gradineref01_Len (gradineref01_Len.l0 (k + 1) x0 x3) _
    rw [gradineref01_Len.l0]; exact go
   exact trivial)
  (fun k ⟨(a0 : Int), _⟩ => by show LeT m_gradineref01_Len (gradineref01_Len.f k a0) _; unfold gradineref01_Len.f; exact go)
end
section
attribute [local irreducible] gradineref02_Size.f gradineref01_Len.f
def s_gradineref02_Bits : FSpec := ⟨[(.row 22 (.int .u64))], [.int .i64], fun k x => (gradineref02_Bits.f k x.1).map fun r => (r, ())⟩
def m_gradineref02_Bits (r : Int) : TT s_gradineref02_Bits.rs := (r, ())
theorem o_gradineref02_Bits : FOk Try.prog 116 s_gradineref02_Bits :=
 fn_of (Bt := blook []) (l := [(76, .pu s_gradineref02_Size), (164, .pu s_gradineref01_Len)]) (C := noCuts) (by kernel_rfl) tab_ok ⟨o_gradineref02_Size, o_gradineref01_Len, trivial⟩ (fn := Try.f116) (by kernel_rfl) rfl (by kernel_rfl) (by decide) (by kernel_rfl) (F := fun k x => gradineref02_Bits.f k x.1) (m := m_gradineref02_Bits) (fun k x => rfl)
  (by exact trivial)
  (fun k ⟨(a0 : List Int), _⟩ => by show LeT m_gradineref02_Bits (gradineref02_Bits.f k a0) _; unfold gradineref02_Bits.f; exact go)
end
section
def s_gradineref04_set : FSpec := ⟨[(.row 22 (.int .u64)), .int .i64], [(.row 22 (.int .u64))], fun k x => (gradineref04_set.f k x.1 x.2.1).map fun r => (r, ())⟩
def m_gradineref04_set (r : List Int) : TT s_gradineref04_set.rs := (r, ())
@[reducible] def q0_gradineref04_set : List Slot := [.tmp 0 [.ty (.row 22 (.int .u64))], .tmp 1 [.ty (.int .i64)], .tmp 5 [.own .mine 5 22 (.int .u64)], .tmp 13 [.ty (.int .i64)], .tmp 14 [.ty (.int .i64)]]
def g0_gradineref04_set (k : Nat) (x : TS q0_gradineref04_set) : Option (List Int) := gradineref04_set.l0 k x.1.1 x.2.1.1 x.2.2.1.1 x.2.2.2.1.1 x.2.2.2.2.1.1
def c_gradineref04_set : Cuts (TT s_gradineref04_set.rs) := ⟨⟨41, 41, []⟩, lookC [(0, ⟨q0_gradineref04_set, fun k x => (g0_gradineref04_set k x).map m_gradineref04_set⟩)], lookC [], lookC []⟩
theorem o_gradineref04_set : FOk Try.prog 171 s_gradineref04_set :=
 fn_of (Bt := blook []) (l := []) (C := c_gradineref04_set) (by kernel_rfl) tab_ok trivial (fn := Try.f171) (by kernel_rfl) rfl (by kernel_rfl) (by decide) (by kernel_rfl) (F := fun k x => gradineref04_set.f k x.1 x.2.1) (m := m_gradineref04_set) (fun k x => rfl)
  (by
   refine And.intro ?_ ?_
   ·refine ob_loop (sl := q0_gradineref04_set) (F := g0_gradineref04_set) (fun x => rfl) fun k ⟨⟨(x0 : List Int), _⟩, ⟨(x1 : Int), _⟩, ⟨(x5 : List Int), _⟩, ⟨(x13 : Int), _⟩, ⟨(x14 : Int), _⟩, _⟩ => ?_
    show LeT m_gradineref04_set (gradineref04_set.l0 (k + 1) x0 x1 x5 x13 x14) _
    rw [gradineref04_set.l0]; exact go
   exact trivial)
  (fun k ⟨(a0 : List Int), (a1 : Int), _⟩ => by show LeT m_gradineref04_set (gradineref04_set.f k a0 a1) _; unfold gradineref04_set.f; exact go)
end
section
attribute [local irreducible] gradineref02_Shl.f gradineref02_Size.f gradineref02_Cmp.f gradineref02_Sub.f gradineref02_Shr.f gradineref02_Bits.f gradineref02_Trim.f gradineref02_Bit.f gradineref04_set.f
def s_gradineref04_Div : FSpec := ⟨[(.row 22 (.int .u64)), (.row 22 (.int .u64))], [(.row 22 (.int .u64)), (.row 22 (.int .u64))], fun k x => (gradineref04_Div.f k x.1 x.2.1).map fun r => (r.1, r.2, ())⟩
def m_gradineref04_Div (r : List Int × List Int) : TT s_gradineref04_Div.rs := (r.1, r.2, ())
@[reducible] def q0_gradineref04_Div : List Slot := [.tmp 0 [.ty (.row 22 (.int .u64))], .tmp 1 [.ty (.row 22 (.int .u64))], .tmp 6 [.ty (.row 22 (.int .u64))], .tmp 18 [.ty .bool]]
def g0_gradineref04_Div (k : Nat) (x : TS q0_gradineref04_Div) : Option (List Int × List Int) := gradineref04_Div.j0 k x.1.1 x.2.1.1 x.2.2.1.1 x.2.2.2.1.1
@[reducible] def q1_gradineref04_Div : List Slot := [.tmp 0 [.ty (.row 22 (.int .u64))], .tmp 1 [.ty (.row 22 (.int .u64))], .tmp 6 [.ty (.row 22 (.int .u64))], .tmp 7 [.ty (.row 22 (.int .u64))], .tmp 10 [.ty (.int .i64)]]
def g1_gradineref04_Div (k : Nat) (x : TS q1_gradineref04_Div) : Option (List Int × List Int) := gradineref04_Div.l0 k x.1.1 x.2.1.1 x.2.2.1.1 x.2.2.2.1.1 x.2.2.2.2.1.1
@[reducible] def q2_gradineref04_Div : List Slot := [.tmp 0 [.ty (.row 22 (.int .u64))], .tmp 1 [.ty (.row 22 (.int .u64))], .tmp 6 [.ty (.row 22 (.int .u64))], .tmp 7 [.ty (.row 22 (.int .u64))], .tmp 10 [.ty (.int .i64)]]
def g2_gradineref04_Div (k : Nat) (x : TS q2_gradineref04_Div) : Option (List Int × List Int) := gradineref04_Div.j2 k x.1.1 x.2.1.1 x.2.2.1.1 x.2.2.2.1.1 x.2.2.2.2.1.1
def c_gradineref04_Div : Cuts (TT s_gradineref04_Div.rs) := ⟨⟨75, 75, []⟩, lookC [(0, ⟨q1_gradineref04_Div, fun k x => (g1_gradineref04_Div k x).map m_gradineref04_Div⟩)], lookC [(13, ⟨q2_gradineref04_Div, fun k x => (g2_gradineref04_Div k x).map m_gradineref04_Div⟩)], lookC [(2, ⟨q0_gradineref04_Div, fun k x => (g0_gradineref04_Div k x).map m_gradineref04_Div⟩)]⟩
theorem o_gradineref04_Div : FOk Try.prog 140 s_gradineref04_Div :=
 fn_of (Bt := blook [(3, [0, 1, 3, 0, 8, 24, 63, 127, 255, 0, 512, 1536, 0, 4096, 12288, 32256, 65024, 131071, 262143, 524287])]) (l := [(73, .pu s_gradineref02_Shl), (76, .pu s_gradineref02_Size), (81, .pu s_gradineref02_Cmp), (82, .pu s_gradineref02_Sub), (115, .pu s_gradineref02_Shr), (116, .pu s_gradineref02_Bits), (137, .pu s_gradineref02_Trim), (162, .pu s_gradineref02_Bit), (171, .pu s_gradineref04_set)]) (C := c_gradineref04_Div) (by kernel_rfl) tab_ok ⟨o_gradineref02_Shl, o_gradineref02_Size, o_gradineref02_Cmp, o_gradineref02_Sub, o_gradineref02_Shr, o_gradineref02_Bits, o_gradineref02_Trim, o_gradineref02_Bit, o_gradineref04_set, trivial⟩ (fn := Try.f140) (by kernel_rfl) rfl (by kernel_rfl) (by decide) (by kernel_rfl) (F := fun k x => gradineref04_Div.f k x.1 x.2.1) (m := m_gradineref04_Div) (fun k x => rfl)
  (by
   refine And.intro ?_ ?_
   ·refine ob_join1 (sl := q0_gradineref04_Div) (F := g0_gradineref04_Div) (fun x => rfl) fun k ⟨⟨(x0 : List Int), _⟩, ⟨(x1 : List Int), _⟩, ⟨(x6 : List Int), _⟩, ⟨(x18 : Bool), _⟩, _⟩ => ?_
    show LeT m_gradineref04_Div (gradineref04_Div.j0 (k + 1) x0 x1 x6 x18) _
    rw [gradineref04_Div.j0]; exact go
   refine And.intro ?_ ?_
   ·refine ob_loop (sl := q1_gradineref04_Div) (F := g1_gradineref04_Div) (fun x => rfl) fun k ⟨⟨(x0 : List Int), _⟩, ⟨(x1 : List Int), _⟩, ⟨(x6 : List Int), _⟩, ⟨(x7 : List Int), _⟩, ⟨(x10 : Int), _⟩, _⟩ => ?_
    show LeT m_gradineref04_Div (gradineref04_Div.l0 (k + 1) x0 x1 x6 x7 x10) _
    rw [gradineref04_Div.l0]; exact go
   refine And.intro ?_ ?_
   ·refine ob_join1 (sl := q2_gradineref04_Div) (F := g2_gradineref04_Div) (fun x => rfl) fun k ⟨⟨(x0 : List Int), _⟩, ⟨(x1 : List Int), _⟩, ⟨(x6 : List Int), _⟩, ⟨(x7 : List Int), _⟩, ⟨(x10 : Int), _⟩, _⟩ => ?_
    show LeT m_gradineref04_Div (gradineref04_Div.j2 (k + 1) x0 x1 x6 x7 x10) _
    rw [gradineref04_Div.j2]; exact go
   exact trivial)
  (fun k ⟨(a0 : List Int), (a1 : List Int), _⟩ => by show LeT m_gradineref04_Div (gradineref04_Div.f k a0 a1) _; unfold gradineref04_Div.f; exact go)
end
section
attribute [local irreducible] gradineref02_Size.f gradineref02_Cmp.f gradineref02_Trim.f gradineref04_Div.f
def s_gradineref05_Part : FSpec := ⟨[(.row 22 (.int .u64)), (.row 22 (.int .u64))], [(.row 22 (.int .u64))], fun k x => (gradineref05_Part.f k x.1 x.2.1).map fun r => (r, ())⟩
def m_gradineref05_Part (r : List Int) : TT s_gradineref05_Part.rs := (r, ())
theorem o_gradineref05_Part : FOk Try.prog 78 s_gradineref05_Part :=
 fn_of (Bt := blook []) (l := [(76, .pu s_gradineref02_Size), (81, .pu s_gradineref02_Cmp), (137, .pu s_gradineref02_Trim), (140, .pu s_gradineref04_Div)]) (C := noCuts) (by kernel_rfl) tab_ok ⟨o_gradineref02_Size, o_gradineref02_Cmp, o_gradineref02_Trim, o_gradineref04_Div, trivial⟩ (fn := Try.f78) (by kernel_rfl) rfl (by kernel_rfl) (by decide) (by kernel_rfl) (F := fun k x => gradineref05_Part.f k x.1 x.2.1) (m := m_gradineref05_Part) (fun k x => rfl)
  (by exact trivial)
  (fun k ⟨(a0 : List Int), (a1 : List Int), _⟩ => by show LeT m_gradineref05_Part (gradineref05_Part.f k a0 a1) _; unfold gradineref05_Part.f; exact go)
end
section
attribute [local irreducible] gradineref02_Size.f gradineref05_Gcd.f gradineref05_Part.f
def s_gradineref07_Make : FSpec := ⟨[.bool, (.row 22 (.int .u64)), (.row 22 (.int .u64))], [(.cons .bool (.cons (.row 22 (.int .u64)) (.row 22 (.int .u64))))], fun k x => (gradineref07_Make.f k x.1 x.2.1 x.2.2.1).map fun r => ((r.1, r.2.1, r.2.2), ())⟩
def m_gradineref07_Make (r : Bool × List Int × List Int) : TT s_gradineref07_Make.rs := ((r.1, r.2.1, r.2.2), ())
theorem o_gradineref07_Make : FOk Try.prog 22 s_gradineref07_Make :=
 fn_of (Bt := blook []) (l := [(76, .pu s_gradineref02_Size), (77, .pu s_gradineref05_Gcd), (78, .pu s_gradineref05_Part)]) (C := noCuts) (by kernel_rfl) tab_ok ⟨o_gradineref02_Size, o_gradineref05_Gcd, o_gradineref05_Part, trivial⟩ (fn := Try.f22) (by kernel_rfl) rfl (by kernel_rfl) (by decide) (by kernel_rfl) (F := fun k x => gradineref07_Make.f k x.1 x.2.1 x.2.2.1) (m := m_gradineref07_Make) (fun k x => rfl)
  (by exact trivial)
  (fun k ⟨(a0 : Bool), (a1 : List Int), (a2 : List Int), _⟩ => by show LeT m_gradineref07_Make (gradineref07_Make.f k a0 a1 a2) _; unfold gradineref07_Make.f; exact go)
end
section
attribute [local irreducible] gradineref07_Make.f
def s_gradineref07_Of : FSpec := ⟨[.int .i64], [(.cons .bool (.cons (.row 22 (.int .u64)) (.row 22 (.int .u64))))], fun k x => (gradineref07_Of.f k x.1).map fun r => ((r.1, r.2.1, r.2.2), ())⟩
def m_gradineref07_Of (r : Bool × List Int × List Int) : TT s_gradineref07_Of.rs := ((r.1, r.2.1, r.2.2), ())
theorem o_gradineref07_Of : FOk Try.prog 32 s_gradineref07_Of :=
 fn_of (Bt := blook []) (l := [(22, .pu s_gradineref07_Make)]) (C := noCuts) (by kernel_rfl) tab_ok ⟨o_gradineref07_Make, trivial⟩ (fn := Try.f32) (by kernel_rfl) rfl (by kernel_rfl) (by decide) (by kernel_rfl) (F := fun k x => gradineref07_Of.f k x.1) (m := m_gradineref07_Of) (fun k x => rfl)
  (by exact trivial)
  (fun k ⟨(a0 : Int), _⟩ => by show LeT m_gradineref07_Of (gradineref07_Of.f k a0) _; unfold gradineref07_Of.f; exact go)
end
section
def s_gradineref09_Signed : FSpec := ⟨[.bool, .int .u64], [.int .u64], fun _ x => (gradineref09_Signed.f x.1 x.2.1).map fun r => (r, ())⟩
def m_gradineref09_Signed (r : Int) : TT s_gradineref09_Signed.rs := (r, ())
theorem o_gradineref09_Signed : FOk Try.prog 114 s_gradineref09_Signed :=
 fn_of (Bt := blook []) (l := []) (C := noCuts) (by kernel_rfl) tab_ok trivial (fn := Try.f114) (by kernel_rfl) rfl (by kernel_rfl) (by decide) (by kernel_rfl) (F := fun k x => gradineref09_Signed.f x.1 x.2.1) (m := m_gradineref09_Signed) (fun k x => rfl)
  (by exact trivial)
  (fun k ⟨(a0 : Bool), (a1 : Int), _⟩ => by show LeT m_gradineref09_Signed (gradineref09_Signed.f a0 a1) _; unfold gradineref09_Signed.f; exact go)
end
section
attribute [local irreducible] gradineref09_Signed.f
def s_gradineref09_Inf : FSpec := ⟨[.bool], [.int .u64], fun _ x => (gradineref09_Inf.f x.1).map fun r => (r, ())⟩
def m_gradineref09_Inf (r : Int) : TT s_gradineref09_Inf.rs := (r, ())
theorem o_gradineref09_Inf : FOk Try.prog 49 s_gradineref09_Inf :=
 fn_of (Bt := blook []) (l := [(114, .pu s_gradineref09_Signed)]) (C := noCuts) (by kernel_rfl) tab_ok ⟨o_gradineref09_Signed, trivial⟩ (fn := Try.f49) (by kernel_rfl) rfl (by kernel_rfl) (by decide) (by kernel_rfl) (F := fun k x => gradineref09_Inf.f x.1) (m := m_gradineref09_Inf) (fun k x => rfl)
  (by exact trivial)
  (fun k ⟨(a0 : Bool), _⟩ => by show LeT m_gradineref09_Inf (gradineref09_Inf.f a0) _; unfold gradineref09_Inf.f; exact go)
end
section
attribute [local irreducible] gradineref02_Halves.f gradineref02_Whole.f gradineref02_at.f
def s_gradineref02_Add : FSpec := ⟨[(.row 22 (.int .u64)), (.row 22 (.int .u64))], [(.row 22 (.int .u64))], fun k x => (gradineref02_Add.f k x.1 x.2.1).map fun r => (r, ())⟩
def m_gradineref02_Add (r : List Int) : TT s_gradineref02_Add.rs := (r, ())
@[reducible] def q0_gradineref02_Add : List Slot := [.tmp 5 [.ty (.row 22 (.int .u64))], .tmp 6 [.ty (.row 22 (.int .u64))], .tmp 7 [.own .mine 7 22 (.int .u64)], .tmp 8 [.ty (.int .u64)], .tmp 19 [.ty (.int .i64)], .tmp 20 [.ty (.int .i64)]]
def g0_gradineref02_Add (k : Nat) (x : TS q0_gradineref02_Add) : Option (List Int) := gradineref02_Add.l0 k x.1.1 x.2.1.1 x.2.2.1.1 x.2.2.2.1.1 x.2.2.2.2.1.1 x.2.2.2.2.2.1.1
def c_gradineref02_Add : Cuts (TT s_gradineref02_Add.rs) := ⟨⟨42, 42, []⟩, lookC [(0, ⟨q0_gradineref02_Add, fun k x => (g0_gradineref02_Add k x).map m_gradineref02_Add⟩)], lookC [], lookC []⟩
theorem o_gradineref02_Add : FOk Try.prog 80 s_gradineref02_Add :=
 fn_of (Bt := blook []) (l := [(141, .pu s_gradineref02_Halves), (142, .pu s_gradineref02_Whole), (143, .pu s_gradineref02_at)]) (C := c_gradineref02_Add) (by kernel_rfl) tab_ok ⟨o_gradineref02_Halves, o_gradineref02_Whole, o_gradineref02_at, trivial⟩ (fn := Try.f80) (by kernel_rfl) rfl (by kernel_rfl) (by decide) (by kernel_rfl) (F := fun k x => gradineref02_Add.f k x.1 x.2.1) (m := m_gradineref02_Add) (fun k x => rfl)
  (by
   refine And.intro ?_ ?_
   ·refine ob_loop (sl := q0_gradineref02_Add) (F := g0_gradineref02_Add) (fun x => rfl) fun k ⟨⟨(x5 : List Int), _⟩, ⟨(x6 : List Int), _⟩, ⟨(x7 : List Int), _⟩, ⟨(x8 : Int), _⟩, ⟨(x19 : Int), _⟩, ⟨(x20 : Int), _⟩, _⟩ => ?_
    show LeT m_gradineref02_Add (gradineref02_Add.l0 (k + 1) x5 x6 x7 x8 x19 x20) _
    rw [gradineref02_Add.l0]; exact go
   exact trivial)
  (fun k ⟨(a0 : List Int), (a1 : List Int), _⟩ => by show LeT m_gradineref02_Add (gradineref02_Add.f k a0 a1) _; unfold gradineref02_Add.f; exact go)
end
section
attribute [local irreducible] gradineref09_Signed.f
def s_gradineref09_Make : FSpec := ⟨[.bool, .int .u64, .int .i64], [.int .u64, .bool], fun k x => (gradineref09_Make.f k x.1 x.2.1 x.2.2.1).map fun r => (r.1, r.2, ())⟩
def m_gradineref09_Make (r : Int × Bool) : TT s_gradineref09_Make.rs := (r.1, r.2, ())
@[reducible] def q0_gradineref09_Make : List Slot := [.tmp 0 [.ty .bool], .tmp 1 [.ty (.int .u64)], .tmp 2 [.ty (.int .i64)], .tmp 17 [.ty .bool]]
def g0_gradineref09_Make (k : Nat) (x : TS q0_gradineref09_Make) : Option (Int × Bool) := gradineref09_Make.j0 k x.1.1 x.2.1.1 x.2.2.1.1 x.2.2.2.1.1
@[reducible] def q1_gradineref09_Make : List Slot := [.tmp 0 [.ty .bool], .tmp 1 [.ty (.int .u64)], .tmp 2 [.ty (.int .i64)]]
def g1_gradineref09_Make (k : Nat) (x : TS q1_gradineref09_Make) : Option (Int × Bool) := gradineref09_Make.l0 k x.1.1 x.2.1.1 x.2.2.1.1
@[reducible] def q2_gradineref09_Make : List Slot := [.tmp 0 [.ty .bool], .tmp 1 [.ty (.int .u64)], .tmp 2 [.ty (.int .i64)], .tmp 30 [.ty .bool]]
def g2_gradineref09_Make (k : Nat) (x : TS q2_gradineref09_Make) : Option (Int × Bool) := gradineref09_Make.j2 k x.1.1 x.2.1.1 x.2.2.1.1 x.2.2.2.1.1
@[reducible] def q3_gradineref09_Make : List Slot := [.tmp 0 [.ty .bool], .tmp 1 [.ty (.int .u64)], .tmp 2 [.ty (.int .i64)]]
def g3_gradineref09_Make (k : Nat) (x : TS q3_gradineref09_Make) : Option (Int × Bool) := gradineref09_Make.j4 k x.1.1 x.2.1.1 x.2.2.1.1
@[reducible] def q4_gradineref09_Make : List Slot := [.tmp 0 [.ty .bool], .tmp 1 [.ty (.int .u64)], .tmp 2 [.ty (.int .i64)]]
def g4_gradineref09_Make (k : Nat) (x : TS q4_gradineref09_Make) : Option (Int × Bool) := gradineref09_Make.l1 k x.1.1 x.2.1.1 x.2.2.1.1
def c_gradineref09_Make : Cuts (TT s_gradineref09_Make.rs) := ⟨⟨57, 57, []⟩, lookC [(0, ⟨q1_gradineref09_Make, fun k x => (g1_gradineref09_Make k x).map m_gradineref09_Make⟩), (1, ⟨q4_gradineref09_Make, fun k x => (g4_gradineref09_Make k x).map m_gradineref09_Make⟩)], lookC [(13, ⟨q3_gradineref09_Make, fun k x => (g3_gradineref09_Make k x).map m_gradineref09_Make⟩)], lookC [(3, ⟨q0_gradineref09_Make, fun k x => (g0_gradineref09_Make k x).map m_gradineref09_Make⟩), (8, ⟨q2_gradineref09_Make, fun k x => (g2_gradineref09_Make k x).map m_gradineref09_Make⟩)]⟩
theorem o_gradineref09_Make : FOk Try.prog 163 s_gradineref09_Make :=
 fn_of (Bt := blook []) (l := [(114, .pu s_gradineref09_Signed)]) (C := c_gradineref09_Make) (by kernel_rfl) tab_ok ⟨o_gradineref09_Signed, trivial⟩ (fn := Try.f163) (by kernel_rfl) rfl (by kernel_rfl) (by decide) (by kernel_rfl) (F := fun k x => gradineref09_Make.f k x.1 x.2.1 x.2.2.1) (m := m_gradineref09_Make) (fun k x => rfl)
  (by
   refine And.intro ?_ ?_
   ·refine ob_join1 (sl := q0_gradineref09_Make) (F := g0_gradineref09_Make) (fun x => rfl) fun k ⟨⟨(x0 : Bool), _⟩, ⟨(x1 : Int), _⟩, ⟨(x2 : Int), _⟩, ⟨(x17 : Bool), _⟩, _⟩ => ?_
    show LeT m_gradineref09_Make (gradineref09_Make.j0 (k + 1) x0 x1 x2 x17) _
    rw [gradineref09_Make.j0]; exact go
   refine And.intro ?_ ?_
   ·refine ob_loop (sl := q1_gradineref09_Make) (F := g1_gradineref09_Make) (fun x => rfl) fun k ⟨⟨(x0 : Bool), _⟩, ⟨(x1 : Int), _⟩, ⟨(x2 : Int), _⟩, _⟩ => ?_
    show LeT m_gradineref09_Make (gradineref09_Make.l0 (k + 1) x0 x1 x2) _
    rw [gradineref09_Make.l0]; exact go
   refine And.intro ?_ ?_
   ·refine ob_join1 (sl := q2_gradineref09_Make) (F := g2_gradineref09_Make) (fun x => rfl) fun k ⟨⟨(x0 : Bool), _⟩, ⟨(x1 : Int), _⟩, ⟨(x2 : Int), _⟩, ⟨(x30 : Bool), _⟩, _⟩ => ?_
    show LeT m_gradineref09_Make (gradineref09_Make.j2 (k + 1) x0 x1 x2 x30) _
    rw [gradineref09_Make.j2]; exact go
   refine And.intro ?_ ?_
   ·refine ob_loop (sl := q4_gradineref09_Make) (F := g4_gradineref09_Make) (fun x => rfl) fun k ⟨⟨(x0 : Bool), _⟩, ⟨(x1 : Int), _⟩, ⟨(x2 : Int), _⟩, _⟩ => ?_
    show LeT m_gradineref09_Make (gradineref09_Make.l1 (k + 1) x0 x1 x2) _
    rw [gradineref09_Make.l1]; exact go
   refine And.intro ?_ ?_
   ·refine ob_join1 (sl := q3_gradineref09_Make) (F := g3_gradineref09_Make) (fun x => rfl) fun k ⟨⟨(x0 : Bool), _⟩, ⟨(x1 : Int), _⟩, ⟨(x2 : Int), _⟩, _⟩ => ?_
    show LeT m_gradineref09_Make (gradineref09_Make.j4 (k + 1) x0 x1 x2) _
    rw [gradineref09_Make.j4]; exact go
   exact trivial)
  (fun k ⟨(a0 : Bool), (a1 : Int), (a2 : Int), _⟩ => by show LeT m_gradineref09_Make (gradineref09_Make.f k a0 a1 a2) _; unfold gradineref09_Make.f; exact go)
end
section
attribute [local irreducible] gradineref09_Inf.f gradineref02_Shl.f gradineref02_Add.f gradineref02_Cmp.f gradineref02_Sub.f gradineref09_Signed.f gradineref02_Shr.f gradineref02_Bits.f gradineref02_Trim.f gradineref02_Bit.f gradineref09_Make.f
def s_gradineref10_Of : FSpec := ⟨[.bool, (.row 22 (.int .u64)), .int .i64], [.int .u64], fun k x => (gradineref10_Of.f k x.1 x.2.1 x.2.2.1).map fun r => (r, ())⟩
def m_gradineref10_Of (r : Int) : TT s_gradineref10_Of.rs := (r, ())
@[reducible] def q0_gradineref10_Of : List Slot := [.tmp 0 [.ty .bool], .tmp 8 [.ty (.int .i64)], .tmp 9 [.ty (.row 22 (.int .u64))]]
def g0_gradineref10_Of (k : Nat) (x : TS q0_gradineref10_Of) : Option (Int) := gradineref10_Of.j0 k x.1.1 x.2.1.1 x.2.2.1.1
@[reducible] def q1_gradineref10_Of : List Slot := [.tmp 0 [.ty .bool], .tmp 8 [.ty (.int .i64)], .tmp 12 [.ty (.int .u64)]]
def g1_gradineref10_Of (k : Nat) (x : TS q1_gradineref10_Of) : Option (Int) := gradineref10_Of.j1 k x.1.1 x.2.1.1 x.2.2.1.1
def c_gradineref10_Of : Cuts (TT s_gradineref10_Of.rs) := ⟨⟨102, 102, []⟩, lookC [], lookC [(19, ⟨q0_gradineref10_Of, fun k x => (g0_gradineref10_Of k x).map m_gradineref10_Of⟩), (22, ⟨q1_gradineref10_Of, fun k x => (g1_gradineref10_Of k x).map m_gradineref10_Of⟩)], lookC []⟩
theorem o_gradineref10_Of : FOk Try.prog 113 s_gradineref10_Of :=
 fn_of (Bt := blook []) (l := [(49, .pu s_gradineref09_Inf), (73, .pu s_gradineref02_Shl), (80, .pu s_gradineref02_Add), (81, .pu s_gradineref02_Cmp), (82, .pu s_gradineref02_Sub), (114, .pu s_gradineref09_Signed), (115, .pu s_gradineref02_Shr), (116, .pu s_gradineref02_Bits), (137, .pu s_gradineref02_Trim), (162, .pu s_gradineref02_Bit), (163, .pu s_gradineref09_Make)]) (C := c_gradineref10_Of) (by kernel_rfl) tab_ok ⟨o_gradineref09_Inf, o_gradineref02_Shl, o_gradineref02_Add, o_gradineref02_Cmp, o_gradineref02_Sub, o_gradineref09_Signed, o_gradineref02_Shr, o_gradineref02_Bits, o_gradineref02_Trim, o_gradineref02_Bit, o_gradineref09_Make, trivial⟩ (fn := Try.f113) (by kernel_rfl) rfl (by kernel_rfl) (by decide) (by kernel_rfl) (F := fun k x => gradineref10_Of.f k x.1 x.2.1 x.2.2.1) (m := m_gradineref10_Of) (fun k x => rfl)
  (by
   refine And.intro ?_ ?_
   ·refine ob_join1 (sl := q0_gradineref10_Of) (F := g0_gradineref10_Of) (fun x => rfl) fun k ⟨⟨(x0 : Bool), _⟩, ⟨(x8 : Int), _⟩, ⟨(x9 : List Int), _⟩, _⟩ => ?_
    show LeT m_gradineref10_Of (gradineref10_Of.j0 (k + 1) x0 x8 x9) _
    rw [gradineref10_Of.j0]; exact go
   refine And.intro ?_ ?_
   ·refine ob_join1 (sl := q1_gradineref10_Of) (F := g1_gradineref10_Of) (fun x => rfl) fun k ⟨⟨(x0 : Bool), _⟩, ⟨(x8 : Int), _⟩, ⟨(x12 : Int), _⟩, _⟩ => ?_
    show LeT m_gradineref10_Of (gradineref10_Of.j1 (k + 1) x0 x8 x12) _
    rw [gradineref10_Of.j1]; exact go
   exact trivial)
  (fun k ⟨(a0 : Bool), (a1 : List Int), (a2 : Int), _⟩ => by show LeT m_gradineref10_Of (gradineref10_Of.f k a0 a1 a2) _; unfold gradineref10_Of.f; exact go)
end
section
attribute [local irreducible] gradineref07_Of.f gradineref10_Of.f
def s_gradineref10_FromInt : FSpec := ⟨[.int .i64], [.int .u64], fun k x => (gradineref10_FromInt.f k x.1).map fun r => (r, ())⟩
def m_gradineref10_FromInt (r : Int) : TT s_gradineref10_FromInt.rs := (r, ())
theorem o_gradineref10_FromInt : FOk Try.prog 48 s_gradineref10_FromInt :=
 fn_of (Bt := blook []) (l := [(32, .pu s_gradineref07_Of), (113, .pu s_gradineref10_Of)]) (C := noCuts) (by kernel_rfl) tab_ok ⟨o_gradineref07_Of, o_gradineref10_Of, trivial⟩ (fn := Try.f48) (by kernel_rfl) rfl (by kernel_rfl) (by decide) (by kernel_rfl) (F := fun k x => gradineref10_FromInt.f k x.1) (m := m_gradineref10_FromInt) (fun k x => rfl)
  (by exact trivial)
  (fun k ⟨(a0 : Int), _⟩ => by show LeT m_gradineref10_FromInt (gradineref10_FromInt.f k a0) _; unfold gradineref10_FromInt.f; exact go)
end
section
attribute [local irreducible] gradineref09_Field.f
def s_gradineref09_Finite : FSpec := ⟨[.int .u64], [.bool], fun _ x => (gradineref09_Finite.f x.1).map fun r => (r, ())⟩
def m_gradineref09_Finite (r : Bool) : TT s_gradineref09_Finite.rs := (r, ())
theorem o_gradineref09_Finite : FOk Try.prog 19 s_gradineref09_Finite :=
 fn_of (Bt := blook []) (l := [(61, .pu s_gradineref09_Field)]) (C := noCuts) (by kernel_rfl) tab_ok ⟨o_gradineref09_Field, trivial⟩ (fn := Try.f19) (by kernel_rfl) rfl (by kernel_rfl) (by decide) (by kernel_rfl) (F := fun k x => gradineref09_Finite.f x.1) (m := m_gradineref09_Finite) (fun k x => rfl)
  (by exact trivial)
  (fun k ⟨(a0 : Int), _⟩ => by show LeT m_gradineref09_Finite (gradineref09_Finite.f a0) _; unfold gradineref09_Finite.f; exact go)
end
section
attribute [local irreducible] gradineref09_Field.f gradineref09_Rest.f
def s_gradineref09_Parts : FSpec := ⟨[.int .u64], [.int .u64, .int .i64], fun _ x => (gradineref09_Parts.f x.1).map fun r => (r.1, r.2, ())⟩
def m_gradineref09_Parts (r : Int × Int) : TT s_gradineref09_Parts.rs := (r.1, r.2, ())
theorem o_gradineref09_Parts : FOk Try.prog 72 s_gradineref09_Parts :=
 fn_of (Bt := blook []) (l := [(61, .pu s_gradineref09_Field), (62, .pu s_gradineref09_Rest)]) (C := noCuts) (by kernel_rfl) tab_ok ⟨o_gradineref09_Field, o_gradineref09_Rest, trivial⟩ (fn := Try.f72) (by kernel_rfl) rfl (by kernel_rfl) (by decide) (by kernel_rfl) (F := fun k x => gradineref09_Parts.f x.1) (m := m_gradineref09_Parts) (fun k x => rfl)
  (by exact trivial)
  (fun k ⟨(a0 : Int), _⟩ => by show LeT m_gradineref09_Parts (gradineref09_Parts.f a0) _; unfold gradineref09_Parts.f; exact go)
end
section
attribute [local irreducible] gradineref09_Neg.f gradineref09_Finite.f gradineref09_Parts.f gradineref02_Shl.f gradineref02_Cmp.f gradineref02_Sub.f gradineref02_Shr.f gradineref02_Bits.f
def s_gradineref13_Near : FSpec := ⟨[.int .u64], [.int .i64, .bool], fun k x => (gradineref13_Near.f k x.1).map fun r => (r.1, r.2, ())⟩
def m_gradineref13_Near (r : Int × Bool) : TT s_gradineref13_Near.rs := (r.1, r.2, ())
@[reducible] def q0_gradineref13_Near : List Slot := [.tmp 0 [.ty (.int .u64)], .tmp 4 [.ty (.int .u64)], .tmp 5 [.ty (.int .i64)], .tmp 6 [.ty (.row 22 (.int .u64))], .tmp 7 [.ty (.int .i64)]]
def g0_gradineref13_Near (k : Nat) (x : TS q0_gradineref13_Near) : Option (Int × Bool) := gradineref13_Near.j0 k x.1.1 x.2.1.1 x.2.2.1.1 x.2.2.2.1.1 x.2.2.2.2.1.1
@[reducible] def q1_gradineref13_Near : List Slot := [.tmp 0 [.ty (.int .u64)], .tmp 7 [.ty (.int .i64)], .tmp 61 [.ty .bool]]
def g1_gradineref13_Near (k : Nat) (x : TS q1_gradineref13_Near) : Option (Int × Bool) := gradineref13_Near.j1 k x.1.1 x.2.1.1 x.2.2.1.1
def c_gradineref13_Near : Cuts (TT s_gradineref13_Near.rs) := ⟨⟨69, 69, []⟩, lookC [], lookC [(10, ⟨q0_gradineref13_Near, fun k x => (g0_gradineref13_Near k x).map m_gradineref13_Near⟩)], lookC [(13, ⟨q1_gradineref13_Near, fun k x => (g1_gradineref13_Near k x).map m_gradineref13_Near⟩)]⟩
theorem o_gradineref13_Near : FOk Try.prog 50 s_gradineref13_Near :=
 fn_of (Bt := blook []) (l := [(14, .pu s_gradineref09_Neg), (19, .pu s_gradineref09_Finite), (72, .pu s_gradineref09_Parts), (73, .pu s_gradineref02_Shl), (81, .pu s_gradineref02_Cmp), (82, .pu s_gradineref02_Sub), (115, .pu s_gradineref02_Shr), (116, .pu s_gradineref02_Bits)]) (C := c_gradineref13_Near) (by kernel_rfl) tab_ok ⟨o_gradineref09_Neg, o_gradineref09_Finite, o_gradineref09_Parts, o_gradineref02_Shl, o_gradineref02_Cmp, o_gradineref02_Sub, o_gradineref02_Shr, o_gradineref02_Bits, trivial⟩ (fn := Try.f50) (by kernel_rfl) rfl (by kernel_rfl) (by decide) (by kernel_rfl) (F := fun k x => gradineref13_Near.f k x.1) (m := m_gradineref13_Near) (fun k x => rfl)
  (by
   refine And.intro ?_ ?_
   ·refine ob_join1 (sl := q0_gradineref13_Near) (F := g0_gradineref13_Near) (fun x => rfl) fun k ⟨⟨(x0 : Int), _⟩, ⟨(x4 : Int), _⟩, ⟨(x5 : Int), _⟩, ⟨(x6 : List Int), _⟩, ⟨(x7 : Int), _⟩, _⟩ => ?_
    show LeT m_gradineref13_Near (gradineref13_Near.j0 (k + 1) x0 x4 x5 x6 x7) _
    rw [gradineref13_Near.j0]; exact go
   refine And.intro ?_ ?_
   ·refine ob_join1 (sl := q1_gradineref13_Near) (F := g1_gradineref13_Near) (fun x => rfl) fun k ⟨⟨(x0 : Int), _⟩, ⟨(x7 : Int), _⟩, ⟨(x61 : Bool), _⟩, _⟩ => ?_
    show LeT m_gradineref13_Near (gradineref13_Near.j1 (k + 1) x0 x7 x61) _
    rw [gradineref13_Near.j1]; exact go
   exact trivial)
  (fun k ⟨(a0 : Int), _⟩ => by show LeT m_gradineref13_Near (gradineref13_Near.f k a0) _; unfold gradineref13_Near.f; exact go)
end
section
attribute [local irreducible] gradineref02_Halves.f gradineref02_Whole.f
def s_gradineref03_Mul : FSpec := ⟨[(.row 22 (.int .u64)), (.row 22 (.int .u64))], [(.row 22 (.int .u64))], fun k x => (gradineref03_Mul.f k x.1 x.2.1).map fun r => (r, ())⟩
def m_gradineref03_Mul (r : List Int) : TT s_gradineref03_Mul.rs := (r, ())
@[reducible] def q0_gradineref03_Mul : List Slot := [.tmp 5 [.ty (.row 22 (.int .u64))], .tmp 6 [.ty (.row 22 (.int .u64))], .tmp 7 [.own .mine 7 22 (.int .u64)], .tmp 23 [.ty (.int .i64)], .tmp 24 [.ty (.int .i64)]]
def g0_gradineref03_Mul (k : Nat) (x : TS q0_gradineref03_Mul) : Option (List Int) := gradineref03_Mul.l0 k x.1.1 x.2.1.1 x.2.2.1.1 x.2.2.2.1.1 x.2.2.2.2.1.1
@[reducible] def q1_gradineref03_Mul : List Slot := [.tmp 5 [.ty (.row 22 (.int .u64))], .tmp 6 [.ty (.row 22 (.int .u64))], .tmp 7 [.own .mine 7 22 (.int .u64)], .tmp 8 [.ty (.int .i64)], .tmp 9 [.ty (.int .u64)], .tmp 23 [.ty (.int .i64)], .tmp 24 [.ty (.int .i64)], .tmp 28 [.ty (.int .i64)], .tmp 29 [.ty (.int .i64)]]
def g1_gradineref03_Mul (k : Nat) (x : TS q1_gradineref03_Mul) : Option (List Int) := gradineref03_Mul.l1 k x.1.1 x.2.1.1 x.2.2.1.1 x.2.2.2.1.1 x.2.2.2.2.1.1 x.2.2.2.2.2.1.1 x.2.2.2.2.2.2.1.1 x.2.2.2.2.2.2.2.1.1 x.2.2.2.2.2.2.2.2.1.1
def c_gradineref03_Mul : Cuts (TT s_gradineref03_Mul.rs) := ⟨⟨70, 70, []⟩, lookC [(0, ⟨q0_gradineref03_Mul, fun k x => (g0_gradineref03_Mul k x).map m_gradineref03_Mul⟩), (1, ⟨q1_gradineref03_Mul, fun k x => (g1_gradineref03_Mul k x).map m_gradineref03_Mul⟩)], lookC [], lookC []⟩
theorem o_gradineref03_Mul : FOk Try.prog 79 s_gradineref03_Mul :=
 fn_of (Bt := blook [(10, [0, 0, 0, 6, 14, 0, 0, 96, 224, 510, 1023, 0, 0, 0, 12288, 30720, 63488, 131071, 262143])]) (l := [(141, .pu s_gradineref02_Halves), (142, .pu s_gradineref02_Whole)]) (C := c_gradineref03_Mul) (by kernel_rfl) tab_ok ⟨o_gradineref02_Halves, o_gradineref02_Whole, trivial⟩ (fn := Try.f79) (by kernel_rfl) rfl (by kernel_rfl) (by decide) (by kernel_rfl) (F := fun k x => gradineref03_Mul.f k x.1 x.2.1) (m := m_gradineref03_Mul) (fun k x => rfl)
  (by
   refine And.intro ?_ ?_
   ·refine ob_loop (sl := q0_gradineref03_Mul) (F := g0_gradineref03_Mul) (fun x => rfl) fun k ⟨⟨(x5 : List Int), _⟩, ⟨(x6 : List Int), _⟩, ⟨(x7 : List Int), _⟩, ⟨(x23 : Int), _⟩, ⟨(x24 : Int), _⟩, _⟩ => ?_
    show LeT m_gradineref03_Mul (gradineref03_Mul.l0 (k + 1) x5 x6 x7 x23 x24) _
    rw [gradineref03_Mul.l0]; exact go
   refine And.intro ?_ ?_
   ·refine ob_loop (sl := q1_gradineref03_Mul) (F := g1_gradineref03_Mul) (fun x => rfl) fun k ⟨⟨(x5 : List Int), _⟩, ⟨(x6 : List Int), _⟩, ⟨(x7 : List Int), _⟩, ⟨(x8 : Int), _⟩, ⟨(x9 : Int), _⟩, ⟨(x23 : Int), _⟩, ⟨(x24 : Int), _⟩, ⟨(x28 : Int), _⟩, ⟨(x29 : Int), _⟩, _⟩ => ?_
    show LeT m_gradineref03_Mul (gradineref03_Mul.l1 (k + 1) x5 x6 x7 x8 x9 x23 x24 x28 x29) _
    rw [gradineref03_Mul.l1]; exact go
   exact trivial)
  (fun k ⟨(a0 : List Int), (a1 : List Int), _⟩ => by show LeT m_gradineref03_Mul (gradineref03_Mul.f k a0 a1) _; unfold gradineref03_Mul.f; exact go)
end
section
attribute [local irreducible] gradineref09_Kind.f gradineref09_Neg.f gradineref09_Nan.f gradineref09_Inf.f gradineref09_Parts.f gradineref03_Mul.f gradineref10_Of.f
def s_gradineref12_Mul : FSpec := ⟨[.int .u64, .int .u64], [.int .u64], fun k x => (gradineref12_Mul.f k x.1 x.2.1).map fun r => (r, ())⟩
def m_gradineref12_Mul (r : Int) : TT s_gradineref12_Mul.rs := (r, ())
@[reducible] def q0_gradineref12_Mul : List Slot := [.tmp 0 [.ty (.int .u64)], .tmp 1 [.ty (.int .u64)], .tmp 5 [.ty (.int .i64)], .tmp 6 [.ty (.int .i64)], .tmp 7 [.ty .bool], .tmp 42 [.ty .bool]]
def g0_gradineref12_Mul (k : Nat) (x : TS q0_gradineref12_Mul) : Option (Int) := gradineref12_Mul.j0 k x.1.1 x.2.1.1 x.2.2.1.1 x.2.2.2.1.1 x.2.2.2.2.1.1 x.2.2.2.2.2.1.1
@[reducible] def q1_gradineref12_Mul : List Slot := [.tmp 0 [.ty (.int .u64)], .tmp 1 [.ty (.int .u64)], .tmp 7 [.ty .bool], .tmp 49 [.ty .bool]]
def g1_gradineref12_Mul (k : Nat) (x : TS q1_gradineref12_Mul) : Option (Int) := gradineref12_Mul.j1 k x.1.1 x.2.1.1 x.2.2.1.1 x.2.2.2.1.1
def c_gradineref12_Mul : Cuts (TT s_gradineref12_Mul.rs) := ⟨⟨72, 72, []⟩, lookC [], lookC [], lookC [(3, ⟨q0_gradineref12_Mul, fun k x => (g0_gradineref12_Mul k x).map m_gradineref12_Mul⟩), (5, ⟨q1_gradineref12_Mul, fun k x => (g1_gradineref12_Mul k x).map m_gradineref12_Mul⟩)]⟩
theorem o_gradineref12_Mul : FOk Try.prog 51 s_gradineref12_Mul :=
 fn_of (Bt := blook []) (l := [(13, .pu s_gradineref09_Kind), (14, .pu s_gradineref09_Neg), (47, .pu s_gradineref09_Nan), (49, .pu s_gradineref09_Inf), (72, .pu s_gradineref09_Parts), (79, .pu s_gradineref03_Mul), (113, .pu s_gradineref10_Of)]) (C := c_gradineref12_Mul) (by kernel_rfl) tab_ok ⟨o_gradineref09_Kind, o_gradineref09_Neg, o_gradineref09_Nan, o_gradineref09_Inf, o_gradineref09_Parts, o_gradineref03_Mul, o_gradineref10_Of, trivial⟩ (fn := Try.f51) (by kernel_rfl) rfl (by kernel_rfl) (by decide) (by kernel_rfl) (F := fun k x => gradineref12_Mul.f k x.1 x.2.1) (m := m_gradineref12_Mul) (fun k x => rfl)
  (by
   refine And.intro ?_ ?_
   ·refine ob_join1 (sl := q0_gradineref12_Mul) (F := g0_gradineref12_Mul) (fun x => rfl) fun k ⟨⟨(x0 : Int), _⟩, ⟨(x1 : Int), _⟩, ⟨(x5 : Int), _⟩, ⟨(x6 : Int), _⟩, ⟨(x7 : Bool), _⟩, ⟨(x42 : Bool), _⟩, _⟩ => ?_
    show LeT m_gradineref12_Mul (gradineref12_Mul.j0 (k + 1) x0 x1 x5 x6 x7 x42) _
    rw [gradineref12_Mul.j0]; exact go
   refine And.intro ?_ ?_
   ·refine ob_join1 (sl := q1_gradineref12_Mul) (F := g1_gradineref12_Mul) (fun x => rfl) fun k ⟨⟨(x0 : Int), _⟩, ⟨(x1 : Int), _⟩, ⟨(x7 : Bool), _⟩, ⟨(x49 : Bool), _⟩, _⟩ => ?_
    show LeT m_gradineref12_Mul (gradineref12_Mul.j1 (k + 1) x0 x1 x7 x49) _
    rw [gradineref12_Mul.j1]; exact go
   exact trivial)
  (fun k ⟨(a0 : Int), (a1 : Int), _⟩ => by show LeT m_gradineref12_Mul (gradineref12_Mul.f k a0 a1) _; unfold gradineref12_Mul.f; exact go)
end
section
attribute [local irreducible] gradineref09_Neg.f gradineref09_Parts.f gradineref02_Shl.f gradineref02_Add.f gradineref02_Cmp.f gradineref02_Sub.f gradineref10_Of.f
def s_gradineref11_numbers : FSpec := ⟨[.int .u64, .int .u64], [.int .u64], fun k x => (gradineref11_numbers.f k x.1 x.2.1).map fun r => (r, ())⟩
def m_gradineref11_numbers (r : Int) : TT s_gradineref11_numbers.rs := (r, ())
theorem o_gradineref11_numbers : FOk Try.prog 118 s_gradineref11_numbers :=
 fn_of (Bt := blook []) (l := [(14, .pu s_gradineref09_Neg), (72, .pu s_gradineref09_Parts), (73, .pu s_gradineref02_Shl), (80, .pu s_gradineref02_Add), (81, .pu s_gradineref02_Cmp), (82, .pu s_gradineref02_Sub), (113, .pu s_gradineref10_Of)]) (C := noCuts) (by kernel_rfl) tab_ok ⟨o_gradineref09_Neg, o_gradineref09_Parts, o_gradineref02_Shl, o_gradineref02_Add, o_gradineref02_Cmp, o_gradineref02_Sub, o_gradineref10_Of, trivial⟩ (fn := Try.f118) (by kernel_rfl) rfl (by kernel_rfl) (by decide) (by kernel_rfl) (F := fun k x => gradineref11_numbers.f k x.1 x.2.1) (m := m_gradineref11_numbers) (fun k x => rfl)
  (by exact trivial)
  (fun k ⟨(a0 : Int), (a1 : Int), _⟩ => by show LeT m_gradineref11_numbers (gradineref11_numbers.f k a0 a1) _; unfold gradineref11_numbers.f; exact go)
end
section
attribute [local irreducible] gradineref09_Kind.f gradineref09_Nan.f gradineref11_numbers.f
def s_gradineref11_Add : FSpec := ⟨[.int .u64, .int .u64], [.int .u64], fun k x => (gradineref11_Add.f k x.1 x.2.1).map fun r => (r, ())⟩
def m_gradineref11_Add (r : Int) : TT s_gradineref11_Add.rs := (r, ())
@[reducible] def q0_gradineref11_Add : List Slot := [.tmp 0 [.ty (.int .u64)], .tmp 1 [.ty (.int .u64)], .tmp 5 [.ty (.int .i64)], .tmp 6 [.ty (.int .i64)], .tmp 29 [.ty .bool]]
def g0_gradineref11_Add (k : Nat) (x : TS q0_gradineref11_Add) : Option (Int) := gradineref11_Add.j0 k x.1.1 x.2.1.1 x.2.2.1.1 x.2.2.2.1.1 x.2.2.2.2.1.1
def c_gradineref11_Add : Cuts (TT s_gradineref11_Add.rs) := ⟨⟨40, 40, []⟩, lookC [], lookC [], lookC [(2, ⟨q0_gradineref11_Add, fun k x => (g0_gradineref11_Add k x).map m_gradineref11_Add⟩)]⟩
theorem o_gradineref11_Add : FOk Try.prog 55 s_gradineref11_Add :=
 fn_of (Bt := blook []) (l := [(13, .pu s_gradineref09_Kind), (47, .pu s_gradineref09_Nan), (118, .pu s_gradineref11_numbers)]) (C := c_gradineref11_Add) (by kernel_rfl) tab_ok ⟨o_gradineref09_Kind, o_gradineref09_Nan, o_gradineref11_numbers, trivial⟩ (fn := Try.f55) (by kernel_rfl) rfl (by kernel_rfl) (by decide) (by kernel_rfl) (F := fun k x => gradineref11_Add.f k x.1 x.2.1) (m := m_gradineref11_Add) (fun k x => rfl)
  (by
   refine And.intro ?_ ?_
   ·refine ob_join1 (sl := q0_gradineref11_Add) (F := g0_gradineref11_Add) (fun x => rfl) fun k ⟨⟨(x0 : Int), _⟩, ⟨(x1 : Int), _⟩, ⟨(x5 : Int), _⟩, ⟨(x6 : Int), _⟩, ⟨(x29 : Bool), _⟩, _⟩ => ?_
    show LeT m_gradineref11_Add (gradineref11_Add.j0 (k + 1) x0 x1 x5 x6 x29) _
    rw [gradineref11_Add.j0]; exact go
   exact trivial)
  (fun k ⟨(a0 : Int), (a1 : Int), _⟩ => by show LeT m_gradineref11_Add (gradineref11_Add.f k a0 a1) _; unfold gradineref11_Add.f; exact go)
end
section
attribute [local irreducible] gradineref09_Kind.f gradineref09_Nan.f
def s_gradineref09_Flip : FSpec := ⟨[.int .u64], [.int .u64], fun _ x => (gradineref09_Flip.f x.1).map fun r => (r, ())⟩
def m_gradineref09_Flip (r : Int) : TT s_gradineref09_Flip.rs := (r, ())
theorem o_gradineref09_Flip : FOk Try.prog 117 s_gradineref09_Flip :=
 fn_of (Bt := blook []) (l := [(13, .pu s_gradineref09_Kind), (47, .pu s_gradineref09_Nan)]) (C := noCuts) (by kernel_rfl) tab_ok ⟨o_gradineref09_Kind, o_gradineref09_Nan, trivial⟩ (fn := Try.f117) (by kernel_rfl) rfl (by kernel_rfl) (by decide) (by kernel_rfl) (F := fun k x => gradineref09_Flip.f x.1) (m := m_gradineref09_Flip) (fun k x => rfl)
  (by exact trivial)
  (fun k ⟨(a0 : Int), _⟩ => by show LeT m_gradineref09_Flip (gradineref09_Flip.f a0) _; unfold gradineref09_Flip.f; exact go)
end
section
attribute [local irreducible] gradineref11_Add.f gradineref09_Flip.f
def s_gradineref11_Sub : FSpec := ⟨[.int .u64, .int .u64], [.int .u64], fun k x => (gradineref11_Sub.f k x.1 x.2.1).map fun r => (r, ())⟩
def m_gradineref11_Sub (r : Int) : TT s_gradineref11_Sub.rs := (r, ())
theorem o_gradineref11_Sub : FOk Try.prog 52 s_gradineref11_Sub :=
 fn_of (Bt := blook []) (l := [(55, .pu s_gradineref11_Add), (117, .pu s_gradineref09_Flip)]) (C := noCuts) (by kernel_rfl) tab_ok ⟨o_gradineref11_Add, o_gradineref09_Flip, trivial⟩ (fn := Try.f52) (by kernel_rfl) rfl (by kernel_rfl) (by decide) (by kernel_rfl) (F := fun k x => gradineref11_Sub.f k x.1 x.2.1) (m := m_gradineref11_Sub) (fun k x => rfl)
  (by exact trivial)
  (fun k ⟨(a0 : Int), (a1 : Int), _⟩ => by show LeT m_gradineref11_Sub (gradineref11_Sub.f k a0 a1) _; unfold gradineref11_Sub.f; exact go)
end
section
def s_gradineref01_Div : FSpec := ⟨[.int .u64, .int .u64, .int .u64], [.int .u64, .int .u64, .bool], fun k x => (gradineref01_Div.f k x.1 x.2.1 x.2.2.1).map fun r => (r.1, r.2.1, r.2.2, ())⟩
def m_gradineref01_Div (r : Int × Int × Bool) : TT s_gradineref01_Div.rs := (r.1, r.2.1, r.2.2, ())
@[reducible] def q0_gradineref01_Div : List Slot := [.tmp 1 [.ty (.int .u64)], .tmp 2 [.ty (.int .u64)], .tmp 9 [.ty (.int .u64)], .tmp 10 [.ty (.int .u64)], .tmp 11 [.ty (.int .i64)]]
def g0_gradineref01_Div (k : Nat) (x : TS q0_gradineref01_Div) : Option (Int × Int × Bool) := gradineref01_Div.l0 k x.1.1 x.2.1.1 x.2.2.1.1 x.2.2.2.1.1 x.2.2.2.2.1.1
def c_gradineref01_Div : Cuts (TT s_gradineref01_Div.rs) := ⟨⟨47, 47, []⟩, lookC [(0, ⟨q0_gradineref01_Div, fun k x => (g0_gradineref01_Div k x).map m_gradineref01_Div⟩)], lookC [], lookC []⟩
theorem o_gradineref01_Div : FOk Try.prog 123 s_gradineref01_Div :=
 fn_of (Bt := blook []) (l := []) (C := c_gradineref01_Div) (by kernel_rfl) tab_ok trivial (fn := Try.f123) (by kernel_rfl) rfl (by kernel_rfl) (by decide) (by kernel_rfl) (F := fun k x => gradineref01_Div.f k x.1 x.2.1 x.2.2.1) (m := m_gradineref01_Div) (fun k x => rfl)
  (by
   refine And.intro ?_ ?_
   ·refine ob_loop (sl := q0_gradineref01_Div) (F := g0_gradineref01_Div) (fun x => rfl) fun k ⟨⟨(x1 : Int), _⟩, ⟨(x2 : Int), _⟩, ⟨(x9 : Int), _⟩, ⟨(x10 : Int), _⟩, ⟨(x11 : Int), _⟩, _⟩ => ?_
    show LeT m_gradineref01_Div (gradineref01_Div.l0 (k + 1) x1 x2 x9 x10 x11) _
    rw [gradineref01_Div.l0]; exact go
   exact trivial)
  (fun k ⟨(a0 : Int), (a1 : Int), (a2 : Int), _⟩ => by show LeT m_gradineref01_Div (gradineref01_Div.f k a0 a1 a2) _; unfold gradineref01_Div.f; exact go)
end
section
attribute [local irreducible] gradineref02_Shl.f gradineref02_Add.f
def s_gradineref10_Half : FSpec := ⟨[(.row 22 (.int .u64))], [(.row 22 (.int .u64))], fun k x => (gradineref10_Half.f k x.1).map fun r => (r, ())⟩
def m_gradineref10_Half (r : List Int) : TT s_gradineref10_Half.rs := (r, ())
theorem o_gradineref10_Half : FOk Try.prog 166 s_gradineref10_Half :=
 fn_of (Bt := blook []) (l := [(73, .pu s_gradineref02_Shl), (80, .pu s_gradineref02_Add)]) (C := noCuts) (by kernel_rfl) tab_ok ⟨o_gradineref02_Shl, o_gradineref02_Add, trivial⟩ (fn := Try.f166) (by kernel_rfl) rfl (by kernel_rfl) (by decide) (by kernel_rfl) (F := fun k x => gradineref10_Half.f k x.1) (m := m_gradineref10_Half) (fun k x => rfl)
  (by exact trivial)
  (fun k ⟨(a0 : List Int), _⟩ => by show LeT m_gradineref10_Half (gradineref10_Half.f k a0) _; unfold gradineref10_Half.f; exact go)
end
section
attribute [local irreducible] gradineref10_Of.f gradineref10_Half.f
def s_gradineref10_More : FSpec := ⟨[.bool, (.row 22 (.int .u64)), .int .i64, .bool], [.int .u64], fun k x => (gradineref10_More.f k x.1 x.2.1 x.2.2.1 x.2.2.2.1).map fun r => (r, ())⟩
def m_gradineref10_More (r : Int) : TT s_gradineref10_More.rs := (r, ())
theorem o_gradineref10_More : FOk Try.prog 124 s_gradineref10_More :=
 fn_of (Bt := blook []) (l := [(113, .pu s_gradineref10_Of), (166, .pu s_gradineref10_Half)]) (C := noCuts) (by kernel_rfl) tab_ok ⟨o_gradineref10_Of, o_gradineref10_Half, trivial⟩ (fn := Try.f124) (by kernel_rfl) rfl (by kernel_rfl) (by decide) (by kernel_rfl) (F := fun k x => gradineref10_More.f k x.1 x.2.1 x.2.2.1 x.2.2.2.1) (m := m_gradineref10_More) (fun k x => rfl)
  (by exact trivial)
  (fun k ⟨(a0 : Bool), (a1 : List Int), (a2 : Int), (a3 : Bool), _⟩ => by show LeT m_gradineref10_More (gradineref10_More.f k a0 a1 a2 a3) _; unfold gradineref10_More.f; exact go)
end
section
attribute [local irreducible] gradineref09_Kind.f gradineref09_Neg.f gradineref09_Nan.f gradineref09_Inf.f gradineref09_Parts.f gradineref09_Signed.f gradineref01_Div.f gradineref10_More.f
def s_gradineref12_Div : FSpec := ⟨[.int .u64, .int .u64], [.int .u64], fun k x => (gradineref12_Div.f k x.1 x.2.1).map fun r => (r, ())⟩
def m_gradineref12_Div (r : Int) : TT s_gradineref12_Div.rs := (r, ())
@[reducible] def q0_gradineref12_Div : List Slot := [.tmp 0 [.ty (.int .u64)], .tmp 1 [.ty (.int .u64)], .tmp 5 [.ty (.int .i64)], .tmp 6 [.ty (.int .i64)], .tmp 7 [.ty .bool], .tmp 45 [.ty .bool]]
def g0_gradineref12_Div (k : Nat) (x : TS q0_gradineref12_Div) : Option (Int) := gradineref12_Div.j0 k x.1.1 x.2.1.1 x.2.2.1.1 x.2.2.2.1.1 x.2.2.2.2.1.1 x.2.2.2.2.2.1.1
@[reducible] def q1_gradineref12_Div : List Slot := [.tmp 0 [.ty (.int .u64)], .tmp 1 [.ty (.int .u64)], .tmp 5 [.ty (.int .i64)], .tmp 6 [.ty (.int .i64)], .tmp 7 [.ty .bool], .tmp 52 [.ty .bool]]
def g1_gradineref12_Div (k : Nat) (x : TS q1_gradineref12_Div) : Option (Int) := gradineref12_Div.j1 k x.1.1 x.2.1.1 x.2.2.1.1 x.2.2.2.1.1 x.2.2.2.2.1.1 x.2.2.2.2.2.1.1
@[reducible] def q2_gradineref12_Div : List Slot := [.tmp 0 [.ty (.int .u64)], .tmp 1 [.ty (.int .u64)], .tmp 7 [.ty .bool], .tmp 60 [.ty .bool]]
def g2_gradineref12_Div (k : Nat) (x : TS q2_gradineref12_Div) : Option (Int) := gradineref12_Div.j2 k x.1.1 x.2.1.1 x.2.2.1.1 x.2.2.2.1.1
@[reducible] def q3_gradineref12_Div : List Slot := [.tmp 7 [.ty .bool], .tmp 8 [.ty (.int .u64)], .tmp 9 [.ty (.int .i64)], .tmp 10 [.ty (.int .u64)], .tmp 11 [.ty (.int .i64)]]
def g3_gradineref12_Div (k : Nat) (x : TS q3_gradineref12_Div) : Option (Int) := gradineref12_Div.l0 k x.1.1 x.2.1.1 x.2.2.1.1 x.2.2.2.1.1 x.2.2.2.2.1.1
@[reducible] def q4_gradineref12_Div : List Slot := [.tmp 7 [.ty .bool], .tmp 8 [.ty (.int .u64)], .tmp 9 [.ty (.int .i64)], .tmp 10 [.ty (.int .u64)], .tmp 11 [.ty (.int .i64)]]
def g4_gradineref12_Div (k : Nat) (x : TS q4_gradineref12_Div) : Option (Int) := gradineref12_Div.l1 k x.1.1 x.2.1.1 x.2.2.1.1 x.2.2.2.1.1 x.2.2.2.2.1.1
def c_gradineref12_Div : Cuts (TT s_gradineref12_Div.rs) := ⟨⟨104, 104, []⟩, lookC [(0, ⟨q3_gradineref12_Div, fun k x => (g3_gradineref12_Div k x).map m_gradineref12_Div⟩), (1, ⟨q4_gradineref12_Div, fun k x => (g4_gradineref12_Div k x).map m_gradineref12_Div⟩)], lookC [], lookC [(3, ⟨q0_gradineref12_Div, fun k x => (g0_gradineref12_Div k x).map m_gradineref12_Div⟩), (5, ⟨q1_gradineref12_Div, fun k x => (g1_gradineref12_Div k x).map m_gradineref12_Div⟩), (7, ⟨q2_gradineref12_Div, fun k x => (g2_gradineref12_Div k x).map m_gradineref12_Div⟩)]⟩
theorem o_gradineref12_Div : FOk Try.prog 60 s_gradineref12_Div :=
 fn_of (Bt := blook []) (l := [(13, .pu s_gradineref09_Kind), (14, .pu s_gradineref09_Neg), (47, .pu s_gradineref09_Nan), (49, .pu s_gradineref09_Inf), (72, .pu s_gradineref09_Parts), (114, .pu s_gradineref09_Signed), (123, .pu s_gradineref01_Div), (124, .pu s_gradineref10_More)]) (C := c_gradineref12_Div) (by kernel_rfl) tab_ok ⟨o_gradineref09_Kind, o_gradineref09_Neg, o_gradineref09_Nan, o_gradineref09_Inf, o_gradineref09_Parts, o_gradineref09_Signed, o_gradineref01_Div, o_gradineref10_More, trivial⟩ (fn := Try.f60) (by kernel_rfl) rfl (by kernel_rfl) (by decide) (by kernel_rfl) (F := fun k x => gradineref12_Div.f k x.1 x.2.1) (m := m_gradineref12_Div) (fun k x => rfl)
  (by
   refine And.intro ?_ ?_
   ·refine ob_join1 (sl := q0_gradineref12_Div) (F := g0_gradineref12_Div) (fun x => rfl) fun k ⟨⟨(x0 : Int), _⟩, ⟨(x1 : Int), _⟩, ⟨(x5 : Int), _⟩, ⟨(x6 : Int), _⟩, ⟨(x7 : Bool), _⟩, ⟨(x45 : Bool), _⟩, _⟩ => ?_
    show LeT m_gradineref12_Div (gradineref12_Div.j0 (k + 1) x0 x1 x5 x6 x7 x45) _
    rw [gradineref12_Div.j0]; exact go
   refine And.intro ?_ ?_
   ·refine ob_join1 (sl := q1_gradineref12_Div) (F := g1_gradineref12_Div) (fun x => rfl) fun k ⟨⟨(x0 : Int), _⟩, ⟨(x1 : Int), _⟩, ⟨(x5 : Int), _⟩, ⟨(x6 : Int), _⟩, ⟨(x7 : Bool), _⟩, ⟨(x52 : Bool), _⟩, _⟩ => ?_
    show LeT m_gradineref12_Div (gradineref12_Div.j1 (k + 1) x0 x1 x5 x6 x7 x52) _
    rw [gradineref12_Div.j1]; exact go
   refine And.intro ?_ ?_
   ·refine ob_join1 (sl := q2_gradineref12_Div) (F := g2_gradineref12_Div) (fun x => rfl) fun k ⟨⟨(x0 : Int), _⟩, ⟨(x1 : Int), _⟩, ⟨(x7 : Bool), _⟩, ⟨(x60 : Bool), _⟩, _⟩ => ?_
    show LeT m_gradineref12_Div (gradineref12_Div.j2 (k + 1) x0 x1 x7 x60) _
    rw [gradineref12_Div.j2]; exact go
   refine And.intro ?_ ?_
   ·refine ob_loop (sl := q3_gradineref12_Div) (F := g3_gradineref12_Div) (fun x => rfl) fun k ⟨⟨(x7 : Bool), _⟩, ⟨(x8 : Int), _⟩, ⟨(x9 : Int), _⟩, ⟨(x10 : Int), _⟩, ⟨(x11 : Int), _⟩, _⟩ => ?_
    show LeT m_gradineref12_Div (gradineref12_Div.l0 (k + 1) x7 x8 x9 x10 x11) _
    rw [gradineref12_Div.l0]; exact go
   refine And.intro ?_ ?_
   ·refine ob_loop (sl := q4_gradineref12_Div) (F := g4_gradineref12_Div) (fun x => rfl) fun k ⟨⟨(x7 : Bool), _⟩, ⟨(x8 : Int), _⟩, ⟨(x9 : Int), _⟩, ⟨(x10 : Int), _⟩, ⟨(x11 : Int), _⟩, _⟩ => ?_
    show LeT m_gradineref12_Div (gradineref12_Div.l1 (k + 1) x7 x8 x9 x10 x11) _
    rw [gradineref12_Div.l1]; exact go
   exact trivial)
  (fun k ⟨(a0 : Int), (a1 : Int), _⟩ => by show LeT m_gradineref12_Div (gradineref12_Div.f k a0 a1) _; unfold gradineref12_Div.f; exact go)
end
section
attribute [local irreducible] gradineref10_FromInt.f gradineref12_Div.f
def s_gradineref14_by : FSpec := ⟨[.int .i64], [.int .u64], fun k x => (gradineref14_by.f k x.1).map fun r => (r, ())⟩
def m_gradineref14_by (r : Int) : TT s_gradineref14_by.rs := (r, ())
theorem o_gradineref14_by : FOk Try.prog 53 s_gradineref14_by :=
 fn_of (Bt := blook []) (l := [(48, .pu s_gradineref10_FromInt), (60, .pu s_gradineref12_Div)]) (C := noCuts) (by kernel_rfl) tab_ok ⟨o_gradineref10_FromInt, o_gradineref12_Div, trivial⟩ (fn := Try.f53) (by kernel_rfl) rfl (by kernel_rfl) (by decide) (by kernel_rfl) (F := fun k x => gradineref14_by.f k x.1) (m := m_gradineref14_by) (fun k x => rfl)
  (by exact trivial)
  (fun k ⟨(a0 : Int), _⟩ => by show LeT m_gradineref14_by (gradineref14_by.f k a0) _; unfold gradineref14_by.f; exact go)
end
section
def s_gradineref14_factorial : FSpec := ⟨[.int .i64], [.int .i64], fun k x => (gradineref14_factorial.f k x.1).map fun r => (r, ())⟩
def m_gradineref14_factorial (r : Int) : TT s_gradineref14_factorial.rs := (r, ())
@[reducible] def q0_gradineref14_factorial : List Slot := [.tmp 3 [.ty (.int .i64)], .tmp 5 [.ty (.int .i64)], .tmp 6 [.ty (.int .i64)]]
def g0_gradineref14_factorial (k : Nat) (x : TS q0_gradineref14_factorial) : Option (Int) := gradineref14_factorial.l0 k x.1.1 x.2.1.1 x.2.2.1.1
def c_gradineref14_factorial : Cuts (TT s_gradineref14_factorial.rs) := ⟨⟨15, 15, []⟩, lookC [(0, ⟨q0_gradineref14_factorial, fun k x => (g0_gradineref14_factorial k x).map m_gradineref14_factorial⟩)], lookC [], lookC []⟩
theorem o_gradineref14_factorial : FOk Try.prog 54 s_gradineref14_factorial :=
 fn_of (Bt := blook []) (l := []) (C := c_gradineref14_factorial) (by kernel_rfl) tab_ok trivial (fn := Try.f54) (by kernel_rfl) rfl (by kernel_rfl) (by decide) (by kernel_rfl) (F := fun k x => gradineref14_factorial.f k x.1) (m := m_gradineref14_factorial) (fun k x => rfl)
  (by
   refine And.intro ?_ ?_
   ·refine ob_loop (sl := q0_gradineref14_factorial) (F := g0_gradineref14_factorial) (fun x => rfl) fun k ⟨⟨(x3 : Int), _⟩, ⟨(x5 : Int), _⟩, ⟨(x6 : Int), _⟩, _⟩ => ?_
    show LeT m_gradineref14_factorial (gradineref14_factorial.l0 (k + 1) x3 x5 x6) _
    rw [gradineref14_factorial.l0]; exact go
   exact trivial)
  (fun k ⟨(a0 : Int), _⟩ => by show LeT m_gradineref14_factorial (gradineref14_factorial.f k a0) _; unfold gradineref14_factorial.f; exact go)
end
section
attribute [local irreducible] gradineref09_Kind.f gradineref09_Nan.f
def s_gradineref09_Clean : FSpec := ⟨[.int .u64], [.int .u64], fun _ x => (gradineref09_Clean.f x.1).map fun r => (r, ())⟩
def m_gradineref09_Clean (r : Int) : TT s_gradineref09_Clean.rs := (r, ())
theorem o_gradineref09_Clean : FOk Try.prog 119 s_gradineref09_Clean :=
 fn_of (Bt := blook []) (l := [(13, .pu s_gradineref09_Kind), (47, .pu s_gradineref09_Nan)]) (C := noCuts) (by kernel_rfl) tab_ok ⟨o_gradineref09_Kind, o_gradineref09_Nan, trivial⟩ (fn := Try.f119) (by kernel_rfl) rfl (by kernel_rfl) (by decide) (by kernel_rfl) (F := fun k x => gradineref09_Clean.f x.1) (m := m_gradineref09_Clean) (fun k x => rfl)
  (by exact trivial)
  (fun k ⟨(a0 : Int), _⟩ => by show LeT m_gradineref09_Clean (gradineref09_Clean.f a0) _; unfold gradineref09_Clean.f; exact go)
end
section
attribute [local irreducible] gradineref09_Neg.f gradineref09_Finite.f gradineref09_Parts.f gradineref10_Of.f gradineref09_Clean.f
def s_gradineref13_Scale : FSpec := ⟨[.int .u64, .int .i64], [.int .u64], fun k x => (gradineref13_Scale.f k x.1 x.2.1).map fun r => (r, ())⟩
def m_gradineref13_Scale (r : Int) : TT s_gradineref13_Scale.rs := (r, ())
theorem o_gradineref13_Scale : FOk Try.prog 56 s_gradineref13_Scale :=
 fn_of (Bt := blook []) (l := [(14, .pu s_gradineref09_Neg), (19, .pu s_gradineref09_Finite), (72, .pu s_gradineref09_Parts), (113, .pu s_gradineref10_Of), (119, .pu s_gradineref09_Clean)]) (C := noCuts) (by kernel_rfl) tab_ok ⟨o_gradineref09_Neg, o_gradineref09_Finite, o_gradineref09_Parts, o_gradineref10_Of, o_gradineref09_Clean, trivial⟩ (fn := Try.f56) (by kernel_rfl) rfl (by kernel_rfl) (by decide) (by kernel_rfl) (F := fun k x => gradineref13_Scale.f k x.1 x.2.1) (m := m_gradineref13_Scale) (fun k x => rfl)
  (by exact trivial)
  (fun k ⟨(a0 : Int), (a1 : Int), _⟩ => by show LeT m_gradineref13_Scale (gradineref13_Scale.f k a0 a1) _; unfold gradineref13_Scale.f; exact go)
end
section
attribute [local irreducible] gradineref09_Kind.f gradineref13_Less.f gradineref09_Nan.f gradineref10_FromInt.f gradineref09_Inf.f gradineref13_Near.f gradineref12_Mul.f gradineref11_Sub.f gradineref14_by.f gradineref14_factorial.f gradineref11_Add.f gradineref13_Scale.f
def s_gradineref14_Exp : FSpec := ⟨[.int .u64], [.int .u64], fun k x => (gradineref14_Exp.f k x.1).map fun r => (r, ())⟩
def m_gradineref14_Exp (r : Int) : TT s_gradineref14_Exp.rs := (r, ())
@[reducible] def q0_gradineref14_Exp : List Slot := [.tmp 3 [.ty (.int .i64)], .tmp 6 [.ty (.int .u64)], .tmp 7 [.ty (.int .u64)], .tmp 38 [.ty (.int .i64)]]
def g0_gradineref14_Exp (k : Nat) (x : TS q0_gradineref14_Exp) : Option (Int) := gradineref14_Exp.l0 k x.1.1 x.2.1.1 x.2.2.1.1 x.2.2.2.1.1
def c_gradineref14_Exp : Cuts (TT s_gradineref14_Exp.rs) := ⟨⟨53, 53, []⟩, lookC [(0, ⟨q0_gradineref14_Exp, fun k x => (g0_gradineref14_Exp k x).map m_gradineref14_Exp⟩)], lookC [], lookC []⟩
theorem o_gradineref14_Exp : FOk Try.prog 9 s_gradineref14_Exp :=
 fn_of (Bt := blook []) (l := [(13, .pu s_gradineref09_Kind), (15, .pu s_gradineref13_Less), (47, .pu s_gradineref09_Nan), (48, .pu s_gradineref10_FromInt), (49, .pu s_gradineref09_Inf), (50, .pu s_gradineref13_Near), (51, .pu s_gradineref12_Mul), (52, .pu s_gradineref11_Sub), (53, .pu s_gradineref14_by), (54, .pu s_gradineref14_factorial), (55, .pu s_gradineref11_Add), (56, .pu s_gradineref13_Scale)]) (C := c_gradineref14_Exp) (by kernel_rfl) tab_ok ⟨o_gradineref09_Kind, o_gradineref13_Less, o_gradineref09_Nan, o_gradineref10_FromInt, o_gradineref09_Inf, o_gradineref13_Near, o_gradineref12_Mul, o_gradineref11_Sub, o_gradineref14_by, o_gradineref14_factorial, o_gradineref11_Add, o_gradineref13_Scale, trivial⟩ (fn := Try.f9) (by kernel_rfl) rfl (by kernel_rfl) (by decide) (by kernel_rfl) (F := fun k x => gradineref14_Exp.f k x.1) (m := m_gradineref14_Exp) (fun k x => rfl)
  (by
   refine And.intro ?_ ?_
   ·refine ob_loop (sl := q0_gradineref14_Exp) (F := g0_gradineref14_Exp) (fun x => rfl) fun k ⟨⟨(x3 : Int), _⟩, ⟨(x6 : Int), _⟩, ⟨(x7 : Int), _⟩, ⟨(x38 : Int), _⟩, _⟩ => ?_
    show LeT m_gradineref14_Exp (gradineref14_Exp.l0 (k + 1) x3 x6 x7 x38) _
    rw [gradineref14_Exp.l0]; exact go
   exact trivial)
  (fun k ⟨(a0 : Int), _⟩ => by show LeT m_gradineref14_Exp (gradineref14_Exp.f k a0) _; unfold gradineref14_Exp.f; exact go)
end
section
attribute [local irreducible] fcmp_Less.f fbits_Parts.f limb_Len.f fbits_Make.f
def s_kernel_split : FSpec := ⟨[.int .u64], [.int .u64, .int .i64], fun k x => (kernel_split.f k x.1).map fun r => (r.1, r.2, ())⟩
def m_kernel_split (r : Int × Int) : TT s_kernel_split.rs := (r.1, r.2, ())
theorem o_kernel_split : FOk Try.prog 58 s_kernel_split :=
 fn_of (Bt := blook []) (l := [(38, .pu s_fcmp_Less), (84, .pu s_fbits_Parts), (107, .pu s_limb_Len), (120, .pu s_fbits_Make)]) (C := noCuts) (by kernel_rfl) tab_ok ⟨o_fcmp_Less, o_fbits_Parts, o_limb_Len, o_fbits_Make, trivial⟩ (fn := Try.f58) (by kernel_rfl) rfl (by kernel_rfl) (by decide) (by kernel_rfl) (F := fun k x => kernel_split.f k x.1) (m := m_kernel_split) (fun k x => rfl)
  (by exact trivial)
  (fun k ⟨(a0 : Int), _⟩ => by show LeT m_kernel_split (kernel_split.f k a0) _; unfold kernel_split.f; exact go)
end
section
attribute [local irreducible] fbits_Kind.f fbits_Nan.f fbits_Inf.f fprod_Mul.f fround_FromInt.f fsum_Sub.f kernel_part.f fsum_Add.f fbits_Neg.f kernel_split.f fprod_Div.f
def s_kernel_Log : FSpec := ⟨[.int .u64], [.int .u64], fun k x => (kernel_Log.f k x.1).map fun r => (r, ())⟩
def m_kernel_Log (r : Int) : TT s_kernel_Log.rs := (r, ())
@[reducible] def q0_kernel_Log : List Slot := [.tmp 0 [.ty (.int .u64)], .tmp 3 [.ty (.int .i64)], .tmp 20 [.ty .bool]]
def g0_kernel_Log (k : Nat) (x : TS q0_kernel_Log) : Option (Int) := kernel_Log.j0 k x.1.1 x.2.1.1 x.2.2.1.1
@[reducible] def q1_kernel_Log : List Slot := [.tmp 5 [.ty (.int .i64)], .tmp 7 [.ty (.int .u64)], .tmp 8 [.ty (.int .u64)], .tmp 9 [.ty (.int .u64)], .tmp 10 [.ty (.int .i64)]]
def g1_kernel_Log (k : Nat) (x : TS q1_kernel_Log) : Option (Int) := kernel_Log.l0 k x.1.1 x.2.1.1 x.2.2.1.1 x.2.2.2.1.1 x.2.2.2.2.1.1
def c_kernel_Log : Cuts (TT s_kernel_Log.rs) := ⟨⟨81, 81, []⟩, lookC [(0, ⟨q1_kernel_Log, fun k x => (g1_kernel_Log k x).map m_kernel_Log⟩)], lookC [], lookC [(4, ⟨q0_kernel_Log, fun k x => (g0_kernel_Log k x).map m_kernel_Log⟩)]⟩
theorem o_kernel_Log : FOk Try.prog 10 s_kernel_Log :=
 fn_of (Bt := blook []) (l := [(36, .pu s_fbits_Kind), (37, .pu s_fbits_Nan), (39, .pu s_fbits_Inf), (41, .pu s_fprod_Mul), (42, .pu s_fround_FromInt), (43, .pu s_fsum_Sub), (44, .pu s_kernel_part), (45, .pu s_fsum_Add), (57, .pu s_fbits_Neg), (58, .pu s_kernel_split), (59, .pu s_fprod_Div)]) (C := c_kernel_Log) (by kernel_rfl) tab_ok ⟨o_fbits_Kind, o_fbits_Nan, o_fbits_Inf, o_fprod_Mul, o_fround_FromInt, o_fsum_Sub, o_kernel_part, o_fsum_Add, o_fbits_Neg, o_kernel_split, o_fprod_Div, trivial⟩ (fn := Try.f10) (by kernel_rfl) rfl (by kernel_rfl) (by decide) (by kernel_rfl) (F := fun k x => kernel_Log.f k x.1) (m := m_kernel_Log) (fun k x => rfl)
  (by
   refine And.intro ?_ ?_
   ·refine ob_join1 (sl := q0_kernel_Log) (F := g0_kernel_Log) (fun x => rfl) fun k ⟨⟨(x0 : Int), _⟩, ⟨(x3 : Int), _⟩, ⟨(x20 : Bool), _⟩, _⟩ => ?_
    show LeT m_kernel_Log (kernel_Log.j0 (k + 1) x0 x3 x20) _
    rw [kernel_Log.j0]; exact go
   refine And.intro ?_ ?_
   ·refine ob_loop (sl := q1_kernel_Log) (F := g1_kernel_Log) (fun x => rfl) fun k ⟨⟨(x5 : Int), _⟩, ⟨(x7 : Int), _⟩, ⟨(x8 : Int), _⟩, ⟨(x9 : Int), _⟩, ⟨(x10 : Int), _⟩, _⟩ => ?_
    show LeT m_kernel_Log (kernel_Log.l0 (k + 1) x5 x7 x8 x9 x10) _
    rw [kernel_Log.l0]; exact go
   exact trivial)
  (fun k ⟨(a0 : Int), _⟩ => by show LeT m_kernel_Log (kernel_Log.f k a0) _; unfold kernel_Log.f; exact go)
end
section
attribute [local irreducible] gradineref09_Kind.f gradineref09_Neg.f gradineref13_Less.f gradineref09_Nan.f gradineref10_FromInt.f gradineref09_Inf.f gradineref12_Mul.f gradineref11_Sub.f gradineref14_by.f gradineref11_Add.f gradineref13_Scale.f gradineref12_Div.f
def s_gradineref14_Log : FSpec := ⟨[.int .u64], [.int .u64], fun k x => (gradineref14_Log.f k x.1).map fun r => (r, ())⟩
def m_gradineref14_Log (r : Int) : TT s_gradineref14_Log.rs := (r, ())
@[reducible] def q0_gradineref14_Log : List Slot := [.tmp 0 [.ty (.int .u64)], .tmp 23 [.ty .bool]]
def g0_gradineref14_Log (k : Nat) (x : TS q0_gradineref14_Log) : Option (Int) := gradineref14_Log.j0 k x.1.1 x.2.1.1
@[reducible] def q1_gradineref14_Log : List Slot := [.tmp 3 [.ty (.int .u64)], .tmp 4 [.ty (.int .i64)]]
def g1_gradineref14_Log (k : Nat) (x : TS q1_gradineref14_Log) : Option (Int) := gradineref14_Log.l0 k x.1.1 x.2.1.1
@[reducible] def q2_gradineref14_Log : List Slot := [.tmp 3 [.ty (.int .u64)], .tmp 4 [.ty (.int .i64)]]
def g2_gradineref14_Log (k : Nat) (x : TS q2_gradineref14_Log) : Option (Int) := gradineref14_Log.l1 k x.1.1 x.2.1.1
@[reducible] def q3_gradineref14_Log : List Slot := [.tmp 3 [.ty (.int .u64)], .tmp 4 [.ty (.int .i64)]]
def g3_gradineref14_Log (k : Nat) (x : TS q3_gradineref14_Log) : Option (Int) := gradineref14_Log.j3 k x.1.1 x.2.1.1
@[reducible] def q4_gradineref14_Log : List Slot := [.tmp 4 [.ty (.int .i64)], .tmp 6 [.ty (.int .u64)], .tmp 7 [.ty (.int .u64)], .tmp 8 [.ty (.int .u64)], .tmp 59 [.ty (.int .i64)]]
def g4_gradineref14_Log (k : Nat) (x : TS q4_gradineref14_Log) : Option (Int) := gradineref14_Log.l2 k x.1.1 x.2.1.1 x.2.2.1.1 x.2.2.2.1.1 x.2.2.2.2.1.1
def c_gradineref14_Log : Cuts (TT s_gradineref14_Log.rs) := ⟨⟨93, 93, []⟩, lookC [(0, ⟨q1_gradineref14_Log, fun k x => (g1_gradineref14_Log k x).map m_gradineref14_Log⟩), (1, ⟨q2_gradineref14_Log, fun k x => (g2_gradineref14_Log k x).map m_gradineref14_Log⟩), (2, ⟨q4_gradineref14_Log, fun k x => (g4_gradineref14_Log k x).map m_gradineref14_Log⟩)], lookC [(17, ⟨q3_gradineref14_Log, fun k x => (g3_gradineref14_Log k x).map m_gradineref14_Log⟩)], lookC [(3, ⟨q0_gradineref14_Log, fun k x => (g0_gradineref14_Log k x).map m_gradineref14_Log⟩)]⟩
theorem o_gradineref14_Log : FOk Try.prog 11 s_gradineref14_Log :=
 fn_of (Bt := blook []) (l := [(13, .pu s_gradineref09_Kind), (14, .pu s_gradineref09_Neg), (15, .pu s_gradineref13_Less), (47, .pu s_gradineref09_Nan), (48, .pu s_gradineref10_FromInt), (49, .pu s_gradineref09_Inf), (51, .pu s_gradineref12_Mul), (52, .pu s_gradineref11_Sub), (53, .pu s_gradineref14_by), (55, .pu s_gradineref11_Add), (56, .pu s_gradineref13_Scale), (60, .pu s_gradineref12_Div)]) (C := c_gradineref14_Log) (by kernel_rfl) tab_ok ⟨o_gradineref09_Kind, o_gradineref09_Neg, o_gradineref13_Less, o_gradineref09_Nan, o_gradineref10_FromInt, o_gradineref09_Inf, o_gradineref12_Mul, o_gradineref11_Sub, o_gradineref14_by, o_gradineref11_Add, o_gradineref13_Scale, o_gradineref12_Div, trivial⟩ (fn := Try.f11) (by kernel_rfl) rfl (by kernel_rfl) (by decide) (by kernel_rfl) (F := fun k x => gradineref14_Log.f k x.1) (m := m_gradineref14_Log) (fun k x => rfl)
  (by
   refine And.intro ?_ ?_
   ·refine ob_join1 (sl := q0_gradineref14_Log) (F := g0_gradineref14_Log) (fun x => rfl) fun k ⟨⟨(x0 : Int), _⟩, ⟨(x23 : Bool), _⟩, _⟩ => ?_
    show LeT m_gradineref14_Log (gradineref14_Log.j0 (k + 1) x0 x23) _
    rw [gradineref14_Log.j0]; exact go
   refine And.intro ?_ ?_
   ·refine ob_loop (sl := q1_gradineref14_Log) (F := g1_gradineref14_Log) (fun x => rfl) fun k ⟨⟨(x3 : Int), _⟩, ⟨(x4 : Int), _⟩, _⟩ => ?_
    show LeT m_gradineref14_Log (gradineref14_Log.l0 (k + 1) x3 x4) _
    rw [gradineref14_Log.l0]; exact go
   refine And.intro ?_ ?_
   ·refine ob_loop (sl := q2_gradineref14_Log) (F := g2_gradineref14_Log) (fun x => rfl) fun k ⟨⟨(x3 : Int), _⟩, ⟨(x4 : Int), _⟩, _⟩ => ?_
    show LeT m_gradineref14_Log (gradineref14_Log.l1 (k + 1) x3 x4) _
    rw [gradineref14_Log.l1]; exact go
   refine And.intro ?_ ?_
   ·refine ob_join1 (sl := q3_gradineref14_Log) (F := g3_gradineref14_Log) (fun x => rfl) fun k ⟨⟨(x3 : Int), _⟩, ⟨(x4 : Int), _⟩, _⟩ => ?_
    show LeT m_gradineref14_Log (gradineref14_Log.j3 (k + 1) x3 x4) _
    rw [gradineref14_Log.j3]; exact go
   refine And.intro ?_ ?_
   ·refine ob_loop (sl := q4_gradineref14_Log) (F := g4_gradineref14_Log) (fun x => rfl) fun k ⟨⟨(x4 : Int), _⟩, ⟨(x6 : Int), _⟩, ⟨(x7 : Int), _⟩, ⟨(x8 : Int), _⟩, ⟨(x59 : Int), _⟩, _⟩ => ?_
    show LeT m_gradineref14_Log (gradineref14_Log.l2 (k + 1) x4 x6 x7 x8 x59) _
    rw [gradineref14_Log.l2]; exact go
   exact trivial)
  (fun k ⟨(a0 : Int), _⟩ => by show LeT m_gradineref14_Log (gradineref14_Log.f k a0) _; unfold gradineref14_Log.f; exact go)
end
section
attribute [local irreducible] kernel_Exp.f kernel_Log.f
def s_gradinelaw14_same : FSpec := ⟨[], [.bool], fun k _ => (gradinelaw14_same.f k).map fun r => (r, ())⟩
def m_gradinelaw14_same (r : Bool) : TT s_gradinelaw14_same.rs := (r, ())
theorem o_gradinelaw14_same : FOk Try.prog 12 s_gradinelaw14_same :=
 fn_of (Bt := blook []) (l := [(8, .pu s_kernel_Exp), (10, .pu s_kernel_Log)]) (C := noCuts) (by kernel_rfl) tab_ok ⟨o_kernel_Exp, o_kernel_Log, trivial⟩ (fn := Try.f12) (by kernel_rfl) rfl (by kernel_rfl) (by decide) (by kernel_rfl) (F := fun k x => gradinelaw14_same.f k) (m := m_gradinelaw14_same) (fun k x => rfl)
  (by exact trivial)
  (fun k x => by show LeT m_gradinelaw14_same (gradinelaw14_same.f k) _; unfold gradinelaw14_same.f; exact go)
end
end Go.Proofs.Ytjocbnjpjihpnaa.A
