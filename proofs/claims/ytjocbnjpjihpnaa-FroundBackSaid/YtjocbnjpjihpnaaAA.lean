/- Functions that come to what their texts say. -/
import Derived.Test.YtjocbnjpjihpnaaProg
import Derived.Test.YtjocbnjpjihpnaaWWc
import Derived.KernelRfl
import Derived.Test.YtjocbnjpjihpnaaBfbits
import Derived.Test.YtjocbnjpjihpnaaBlimb
import Derived.Test.YtjocbnjpjihpnaaBfround
import Derived.Test.YtjocbnjpjihpnaaBnat
import Derived.Test.YtjocbnjpjihpnaaBrat
import Derived.Test.YtjocbnjpjihpnaaBquot
import Derived.Test.YtjocbnjpjihpnaaBgcd
import Derived.Test.YtjocbnjpjihpnaaBgradineref09
import Derived.Test.YtjocbnjpjihpnaaBgradineplain
import Derived.Test.YtjocbnjpjihpnaaBgradineref02
import Derived.Test.YtjocbnjpjihpnaaBgradineref05
import Derived.Test.YtjocbnjpjihpnaaBgradineref07
import Derived.Test.YtjocbnjpjihpnaaFgradinelaw10right
import Derived.Test.YtjocbnjpjihpnaaFgradinelaw10same
import Derived.Test.YtjocbnjpjihpnaaBgradineref01
import Derived.Test.YtjocbnjpjihpnaaBgradineref04
import Derived.Test.YtjocbnjpjihpnaaBgradineref03
namespace Go.Proofs.Ytjocbnjpjihpnaa.A
open Go.RowKit Go.Proofs.Ytjocbnjpjihpnaa.P Go.Proofs.YtjocbnjpjihpnaaW.PrintWords Go.Proofs.YtjocbnjpjihpnaaW.PrintLast Go.Proofs.YtjocbnjpjihpnaaW.PrintMore Go.Proofs.YtjocbnjpjihpnaaW.Abs
set_option linter.unusedVariables false
set_option linter.unusedSimpArgs false
set_option maxRecDepth 100000
set_option maxHeartbeats 4000000
end Go.Proofs.Ytjocbnjpjihpnaa.A
namespace Go.Proofs.Ytjocbnjpjihpnaa.A
open Go.Proofs.YtjocbnjpjihpnaaW.Abs
def tab : Tab := [(2, ⟨1, 8, [.ro (.int .i64) (0 : Int)], .int .i64, some (.int .i64)⟩),
 (3, ⟨1, 8, [.ro (.int .i64) (0 : Int)], .int .i64, some (.int .i64)⟩),
 (4, ⟨1, 1, [.ro .bool false], .bool, some .bool⟩),
 (5, ⟨1, 1, [.ro (.int .u8) (0 : Int)], .int .u8, some (.int .u8)⟩),
 (9, ⟨1, 16, [.ro .str (⟨#[]⟩ : ByteArray)], .str, some .str⟩),
 (13, ⟨2, 24, [.ro .str (⟨#[]⟩ : ByteArray), .ro (.int .u64) (0 : Int)], .struct [(0, 1), (1, 1)], some (.cons .str (.int .u64))⟩),
 (21, ⟨1, 4, [.ro (.int .i32) (0 : Int)], .int .i32, some (.int .i32)⟩),
 (22, ⟨1, 8, [.ro (.int .u64) (0 : Int)], .int .u64, some (.int .u64)⟩),
 (28, ⟨1, 24, [.nils], .slice 22, some (.row 22 (.int .u64))⟩),
 (29, ⟨3, 56, [.ro .bool false, .nils, .nils], .struct [(0, 1), (1, 1), (2, 1)], some (.cons .bool (.cons (.row 22 (.int .u64)) (.row 22 (.int .u64))))⟩),
 (30, ⟨3, 56, [.ro .bool false, .nils, .nils], .struct [(0, 1), (1, 1), (2, 1)], some (.cons .bool (.cons (.row 22 (.int .u64)) (.row 22 (.int .u64))))⟩),
 (39, ⟨1, 8, [.ro (.int .i64) (0 : Int)], .int .i64, some (.int .i64)⟩),
 (43, ⟨1, 24, [.nils], .slice 85, some (.row 85 (.cons (.int .i64) (.cons (.int .i64) (.cons (.int .i64) (.cons .bool (.cons (.row 22 (.int .u64)) (.row 22 (.int .u64))))))))⟩),
 (44, ⟨1, 24, [.nils], .slice 30, some (.row 30 (.cons .bool (.cons (.row 22 (.int .u64)) (.row 22 (.int .u64)))))⟩),
 (45, ⟨4, 96, [.nils, .nils, .nils, .nils], .struct [(0, 1), (1, 1), (2, 1), (3, 1)], some (.cons (.row 85 (.cons (.int .i64) (.cons (.int .i64) (.cons (.int .i64) (.cons .bool (.cons (.row 22 (.int .u64)) (.row 22 (.int .u64)))))))) (.cons (.row 30 (.cons .bool (.cons (.row 22 (.int .u64)) (.row 22 (.int .u64))))) (.cons (.row 30 (.cons .bool (.cons (.row 22 (.int .u64)) (.row 22 (.int .u64))))) (.row 30 (.cons .bool (.cons (.row 22 (.int .u64)) (.row 22 (.int .u64))))))))⟩),
 (46, ⟨4, 96, [.nils, .nils, .nils, .nils], .struct [(0, 1), (1, 1), (2, 1), (3, 1)], some (.cons (.row 85 (.cons (.int .i64) (.cons (.int .i64) (.cons (.int .i64) (.cons .bool (.cons (.row 22 (.int .u64)) (.row 22 (.int .u64)))))))) (.cons (.row 30 (.cons .bool (.cons (.row 22 (.int .u64)) (.row 22 (.int .u64))))) (.cons (.row 30 (.cons .bool (.cons (.row 22 (.int .u64)) (.row 22 (.int .u64))))) (.row 30 (.cons .bool (.cons (.row 22 (.int .u64)) (.row 22 (.int .u64))))))))⟩),
 (47, ⟨1, 24, [.nils], .slice 3, some (.row 3 (.int .i64))⟩),
 (62, ⟨14, 112, [.ro (.int .i64) (0 : Int), .ro (.int .i64) (0 : Int), .ro (.int .i64) (0 : Int), .ro (.int .i64) (0 : Int), .ro (.int .i64) (0 : Int), .ro (.int .i64) (0 : Int), .ro (.int .i64) (0 : Int), .ro (.int .i64) (0 : Int), .ro (.int .i64) (0 : Int), .ro (.int .i64) (0 : Int), .ro (.int .i64) (0 : Int), .ro (.int .i64) (0 : Int), .ro (.int .i64) (0 : Int), .ro (.int .i64) (0 : Int)], .arr 14 3, none⟩),
 (67, ⟨1, 8, [.ro (.int .u64) (0 : Int)], .int .u64, some (.int .u64)⟩),
 (84, ⟨6, 80, [.ro (.int .i64) (0 : Int), .ro (.int .i64) (0 : Int), .ro (.int .i64) (0 : Int), .ro .bool false, .nils, .nils], .struct [(0, 1), (1, 1), (2, 1), (3, 3)], some (.cons (.int .i64) (.cons (.int .i64) (.cons (.int .i64) (.cons .bool (.cons (.row 22 (.int .u64)) (.row 22 (.int .u64)))))))⟩),
 (85, ⟨6, 80, [.ro (.int .i64) (0 : Int), .ro (.int .i64) (0 : Int), .ro (.int .i64) (0 : Int), .ro .bool false, .nils, .nils], .struct [(0, 1), (1, 1), (2, 1), (3, 3)], some (.cons (.int .i64) (.cons (.int .i64) (.cons (.int .i64) (.cons .bool (.cons (.row 22 (.int .u64)) (.row 22 (.int .u64)))))))⟩),
 (90, ⟨1, 8, [.nilp], .ptr, none⟩),
 (92, ⟨3, 72, [.nils, .nils, .nils], .struct [(0, 1), (1, 1), (2, 1)], some (.cons (.row 30 (.cons .bool (.cons (.row 22 (.int .u64)) (.row 22 (.int .u64))))) (.cons (.row 30 (.cons .bool (.cons (.row 22 (.int .u64)) (.row 22 (.int .u64))))) (.row 30 (.cons .bool (.cons (.row 22 (.int .u64)) (.row 22 (.int .u64)))))))⟩),
 (93, ⟨3, 72, [.nils, .nils, .nils], .struct [(0, 1), (1, 1), (2, 1)], some (.cons (.row 30 (.cons .bool (.cons (.row 22 (.int .u64)) (.row 22 (.int .u64))))) (.cons (.row 30 (.cons .bool (.cons (.row 22 (.int .u64)) (.row 22 (.int .u64))))) (.row 30 (.cons .bool (.cons (.row 22 (.int .u64)) (.row 22 (.int .u64)))))))⟩),
 (106, ⟨3, 24, [.ro .bool false, .ro (.int .u64) (0 : Int), .ro (.int .i64) (0 : Int)], .struct [(0, 1), (1, 1), (2, 1)], some (.cons .bool (.cons (.int .u64) (.int .i64)))⟩),
 (107, ⟨3, 24, [.ro .bool false, .ro (.int .u64) (0 : Int), .ro (.int .i64) (0 : Int)], .struct [(0, 1), (1, 1), (2, 1)], some (.cons .bool (.cons (.int .u64) (.int .i64)))⟩),
 (124, ⟨1, 8, [.nilp], .ptr, none⟩),
 (125, ⟨4, 80, [.nils, .nils, .nils, .ro (.int .i64) (0 : Int)], .struct [(0, 1), (1, 1), (2, 1), (3, 1)], some (.cons (.row 30 (.cons .bool (.cons (.row 22 (.int .u64)) (.row 22 (.int .u64))))) (.cons (.row 30 (.cons .bool (.cons (.row 22 (.int .u64)) (.row 22 (.int .u64))))) (.cons (.row 30 (.cons .bool (.cons (.row 22 (.int .u64)) (.row 22 (.int .u64))))) (.int .i64))))⟩),
 (126, ⟨4, 80, [.nils, .nils, .nils, .ro (.int .i64) (0 : Int)], .struct [(0, 1), (1, 1), (2, 1), (3, 1)], some (.cons (.row 30 (.cons .bool (.cons (.row 22 (.int .u64)) (.row 22 (.int .u64))))) (.cons (.row 30 (.cons .bool (.cons (.row 22 (.int .u64)) (.row 22 (.int .u64))))) (.cons (.row 30 (.cons .bool (.cons (.row 22 (.int .u64)) (.row 22 (.int .u64))))) (.int .i64))))⟩),
 (129, ⟨1, 8, [.nilp], .ptr, none⟩),
 (150, ⟨1, 4, [.ro (.int .u32) (0 : Int)], .int .u32, some (.int .u32)⟩),
 (154, ⟨1, 8, [.nilp], .ptr, none⟩)]
theorem tab_ok : Tab.ok Try.prog tab = true := by kernel_rfl
end Go.Proofs.Ytjocbnjpjihpnaa.A
namespace Go.Proofs.Ytjocbnjpjihpnaa.A
open Go.RowKit Go.Proofs.Ytjocbnjpjihpnaa.P Go.Proofs.YtjocbnjpjihpnaaW.PrintWords Go.Proofs.YtjocbnjpjihpnaaW.PrintLast Go.Proofs.YtjocbnjpjihpnaaW.PrintMore Go.Proofs.YtjocbnjpjihpnaaW.Abs
set_option linter.unusedVariables false
set_option linter.unusedSimpArgs false
set_option maxRecDepth 100000
set_option maxHeartbeats 4000000
section
def s_fbits_signed : FSpec := ⟨[.bool, .int .u64], [.int .u64], fun _ x => (fbits_signed.f x.1 x.2.1).map fun r => (r, ())⟩
def m_fbits_signed (r : Int) : TT s_fbits_signed.rs := (r, ())
theorem o_fbits_signed : FOk Try.prog 106 s_fbits_signed :=
 fn_of (Bt := blook []) (l := []) (C := noCuts) (by kernel_rfl) tab_ok trivial (fn := Try.f106) (by kernel_rfl) rfl (by kernel_rfl) (by decide) (by kernel_rfl) (F := fun k x => fbits_signed.f x.1 x.2.1) (m := m_fbits_signed) (fun k x => rfl)
  (by exact trivial)
  (fun k ⟨(a0 : Bool), (a1 : Int), _⟩ => by show LeT m_fbits_signed (fbits_signed.f a0 a1) _; unfold fbits_signed.f; exact go)
end
section
attribute [local irreducible] fbits_signed.f
def s_fbits_Inf : FSpec := ⟨[.bool], [.int .u64], fun _ x => (fbits_Inf.f x.1).map fun r => (r, ())⟩
def m_fbits_Inf (r : Int) : TT s_fbits_Inf.rs := (r, ())
theorem o_fbits_Inf : FOk Try.prog 39 s_fbits_Inf :=
 fn_of (Bt := blook []) (l := [(106, .pu s_fbits_signed)]) (C := noCuts) (by kernel_rfl) tab_ok ⟨o_fbits_signed, trivial⟩ (fn := Try.f39) (by kernel_rfl) rfl (by kernel_rfl) (by decide) (by kernel_rfl) (F := fun k x => fbits_Inf.f x.1) (m := m_fbits_Inf) (fun k x => rfl)
  (by exact trivial)
  (fun k ⟨(a0 : Bool), _⟩ => by show LeT m_fbits_Inf (fbits_Inf.f a0) _; unfold fbits_Inf.f; exact go)
end
section
def s_fbits_exponent : FSpec := ⟨[.int .u64], [.int .i64], fun _ x => (fbits_exponent.f x.1).map fun r => (r, ())⟩
def m_fbits_exponent (r : Int) : TT s_fbits_exponent.rs := (r, ())
theorem o_fbits_exponent : FOk Try.prog 103 s_fbits_exponent :=
 fn_of (Bt := blook []) (l := []) (C := noCuts) (by kernel_rfl) tab_ok trivial (fn := Try.f103) (by kernel_rfl) rfl (by kernel_rfl) (by decide) (by kernel_rfl) (F := fun k x => fbits_exponent.f x.1) (m := m_fbits_exponent) (fun k x => rfl)
  (by exact trivial)
  (fun k ⟨(a0 : Int), _⟩ => by show LeT m_fbits_exponent (fbits_exponent.f a0) _; unfold fbits_exponent.f; exact go)
end
section
attribute [local irreducible] fbits_exponent.f
def s_fbits_Kind : FSpec := ⟨[.int .u64], [.int .i64], fun _ x => (fbits_Kind.f x.1).map fun r => (r, ())⟩
def m_fbits_Kind (r : Int) : TT s_fbits_Kind.rs := (r, ())
theorem o_fbits_Kind : FOk Try.prog 36 s_fbits_Kind :=
 fn_of (Bt := blook []) (l := [(103, .pu s_fbits_exponent)]) (C := noCuts) (by kernel_rfl) tab_ok ⟨o_fbits_exponent, trivial⟩ (fn := Try.f36) (by kernel_rfl) rfl (by kernel_rfl) (by decide) (by kernel_rfl) (F := fun k x => fbits_Kind.f x.1) (m := m_fbits_Kind) (fun k x => rfl)
  (by exact trivial)
  (fun k ⟨(a0 : Int), _⟩ => by show LeT m_fbits_Kind (fbits_Kind.f a0) _; unfold fbits_Kind.f; exact go)
end
section
def s_limb_Len : FSpec := ⟨[.int .u64], [.int .i64], fun k x => (limb_Len.f k x.1).map fun r => (r, ())⟩
def m_limb_Len (r : Int) : TT s_limb_Len.rs := (r, ())
@[reducible] def q0_limb_Len : List Slot := [.tmp 0 [.ty (.int .u64)], .tmp 3 [.ty (.int .i64)], .tmp 4 [.ty (.int .i64)]]
def g0_limb_Len (k : Nat) (x : TS q0_limb_Len) : Option (Int) := limb_Len.l0 k x.1.1 x.2.1.1 x.2.2.1.1
def c_limb_Len : Cuts (TT s_limb_Len.rs) := ⟨⟨23, 23, []⟩, lookC [(0, ⟨q0_limb_Len, fun k x => (g0_limb_Len k x).map m_limb_Len⟩)], lookC [], lookC []⟩
theorem o_limb_Len : FOk Try.prog 107 s_limb_Len :=
 fn_of (Bt := blook []) (l := []) (C := c_limb_Len) (by kernel_rfl) tab_ok trivial (fn := Try.f107) (by kernel_rfl) rfl (by kernel_rfl) (by decide) (by kernel_rfl) (F := fun k x => limb_Len.f k x.1) (m := m_limb_Len) (fun k x => rfl)
  (by
   refine And.intro ?_ ?_
   ·refine ob_loop (sl := q0_limb_Len) (F := g0_limb_Len) (fun x => rfl) fun k ⟨⟨(x0 : Int), _⟩, ⟨(x3 : Int), _⟩, ⟨(x4 : Int), _⟩, _⟩ => ?_
    show LeT m_limb_Len (limb_Len.l0 (k + 1) x0 x3 x4) _
    rw [limb_Len.l0]; exact go
   exact trivial)
  (fun k ⟨(a0 : Int), _⟩ => by show LeT m_limb_Len (limb_Len.f k a0) _; unfold limb_Len.f; exact go)
end
section
attribute [local irreducible] fbits_signed.f limb_Len.f
def s_fbits_Make : FSpec := ⟨[.bool, .int .u64, .int .i64], [.int .u64, .bool], fun k x => (fbits_Make.f k x.1 x.2.1 x.2.2.1).map fun r => (r.1, r.2, ())⟩
def m_fbits_Make (r : Int × Bool) : TT s_fbits_Make.rs := (r.1, r.2, ())
theorem o_fbits_Make : FOk Try.prog 120 s_fbits_Make :=
 fn_of (Bt := blook []) (l := [(106, .pu s_fbits_signed), (107, .pu s_limb_Len)]) (C := noCuts) (by kernel_rfl) tab_ok ⟨o_fbits_signed, o_limb_Len, trivial⟩ (fn := Try.f120) (by kernel_rfl) rfl (by kernel_rfl) (by decide) (by kernel_rfl) (F := fun k x => fbits_Make.f k x.1 x.2.1 x.2.2.1) (m := m_fbits_Make) (fun k x => rfl)
  (by exact trivial)
  (fun k ⟨(a0 : Bool), (a1 : Int), (a2 : Int), _⟩ => by show LeT m_fbits_Make (fbits_Make.f k a0 a1 a2) _; unfold fbits_Make.f; unfold fbits_Make.j0; unfold fbits_Make.j1; unfold fbits_Make.j2; exact goq)
end
section
def s_fbits_Neg : FSpec := ⟨[.int .u64], [.bool], fun _ x => (fbits_Neg.f x.1).map fun r => (r, ())⟩
def m_fbits_Neg (r : Bool) : TT s_fbits_Neg.rs := (r, ())
theorem o_fbits_Neg : FOk Try.prog 57 s_fbits_Neg :=
 fn_of (Bt := blook []) (l := []) (C := noCuts) (by kernel_rfl) tab_ok trivial (fn := Try.f57) (by kernel_rfl) rfl (by kernel_rfl) (by decide) (by kernel_rfl) (F := fun k x => fbits_Neg.f x.1) (m := m_fbits_Neg) (fun k x => rfl)
  (by exact trivial)
  (fun k ⟨(a0 : Int), _⟩ => by show LeT m_fbits_Neg (fbits_Neg.f a0) _; unfold fbits_Neg.f; exact go)
end
section
attribute [local irreducible] fbits_Kind.f fbits_Neg.f fbits_exponent.f
def s_fbits_Parts : FSpec := ⟨[.int .u64], [.bool, .int .u64, .int .i64, .bool], fun k x => (fbits_Parts.f k x.1).map fun r => (r.1, r.2.1, r.2.2.1, r.2.2.2, ())⟩
def m_fbits_Parts (r : Bool × Int × Int × Bool) : TT s_fbits_Parts.rs := (r.1, r.2.1, r.2.2.1, r.2.2.2, ())
theorem o_fbits_Parts : FOk Try.prog 84 s_fbits_Parts :=
 fn_of (Bt := blook []) (l := [(36, .pu s_fbits_Kind), (57, .pu s_fbits_Neg), (103, .pu s_fbits_exponent)]) (C := noCuts) (by kernel_rfl) tab_ok ⟨o_fbits_Kind, o_fbits_Neg, o_fbits_exponent, trivial⟩ (fn := Try.f84) (by kernel_rfl) rfl (by kernel_rfl) (by decide) (by kernel_rfl) (F := fun k x => fbits_Parts.f k x.1) (m := m_fbits_Parts) (fun k x => rfl)
  (by exact trivial)
  (fun k ⟨(a0 : Int), _⟩ => by show LeT m_fbits_Parts (fbits_Parts.f k a0) _; unfold fbits_Parts.f; unfold fbits_Parts.j0; exact goq)
end
section
attribute [local irreducible] fbits_Inf.f fbits_Make.f
def s_fround_made : FSpec := ⟨[.bool, .int .u64, .int .i64], [.int .u64], fun k x => (fround_made.f k x.1 x.2.1 x.2.2.1).map fun r => (r, ())⟩
def m_fround_made (r : Int) : TT s_fround_made.rs := (r, ())
theorem o_fround_made : FOk Try.prog 68 s_fround_made :=
 fn_of (Bt := blook []) (l := [(39, .pu s_fbits_Inf), (120, .pu s_fbits_Make)]) (C := noCuts) (by kernel_rfl) tab_ok ⟨o_fbits_Inf, o_fbits_Make, trivial⟩ (fn := Try.f68) (by kernel_rfl) rfl (by kernel_rfl) (by decide) (by kernel_rfl) (F := fun k x => fround_made.f k x.1 x.2.1 x.2.2.1) (m := m_fround_made) (fun k x => rfl)
  (by exact trivial)
  (fun k ⟨(a0 : Bool), (a1 : Int), (a2 : Int), _⟩ => by show LeT m_fround_made (fround_made.f k a0 a1 a2) _; unfold fround_made.f; exact go)
end
section
def s_fround_even : FSpec := ⟨[.int .u64, .bool, .bool], [.int .u64], fun _ x => (fround_even.f x.1 x.2.1 x.2.2.1).map fun r => (r, ())⟩
def m_fround_even (r : Int) : TT s_fround_even.rs := (r, ())
theorem o_fround_even : FOk Try.prog 126 s_fround_even :=
 fn_of (Bt := blook []) (l := []) (C := noCuts) (by kernel_rfl) tab_ok trivial (fn := Try.f126) (by kernel_rfl) rfl (by kernel_rfl) (by decide) (by kernel_rfl) (F := fun k x => fround_even.f x.1 x.2.1 x.2.2.1) (m := m_fround_even) (fun k x => rfl)
  (by exact trivial)
  (fun k ⟨(a0 : Int), (a1 : Bool), (a2 : Bool), _⟩ => by show LeT m_fround_even (fround_even.f a0 a1 a2) _; unfold fround_even.f; exact go)
end
section
attribute [local irreducible] fbits_Inf.f fround_made.f limb_Len.f fround_even.f
def s_fround_Word : FSpec := ⟨[.bool, .int .u64, .int .i64], [.int .u64], fun k x => (fround_Word.f k x.1 x.2.1 x.2.2.1).map fun r => (r, ())⟩
def m_fround_Word (r : Int) : TT s_fround_Word.rs := (r, ())
theorem o_fround_Word : FOk Try.prog 65 s_fround_Word :=
 fn_of (Bt := blook []) (l := [(39, .pu s_fbits_Inf), (68, .pu s_fround_made), (107, .pu s_limb_Len), (126, .pu s_fround_even)]) (C := noCuts) (by kernel_rfl) tab_ok ⟨o_fbits_Inf, o_fround_made, o_limb_Len, o_fround_even, trivial⟩ (fn := Try.f65) (by kernel_rfl) rfl (by kernel_rfl) (by decide) (by kernel_rfl) (F := fun k x => fround_Word.f k x.1 x.2.1 x.2.2.1) (m := m_fround_Word) (fun k x => rfl)
  (by exact trivial)
  (fun k ⟨(a0 : Bool), (a1 : Int), (a2 : Int), _⟩ => by show LeT m_fround_Word (fround_Word.f k a0 a1 a2) _; unfold fround_Word.f; exact go)
end
section
attribute [local irreducible] fround_Word.f
def s_fround_FromInt : FSpec := ⟨[.int .i64], [.int .u64], fun k x => (fround_FromInt.f k x.1).map fun r => (r, ())⟩
def m_fround_FromInt (r : Int) : TT s_fround_FromInt.rs := (r, ())
theorem o_fround_FromInt : FOk Try.prog 42 s_fround_FromInt :=
 fn_of (Bt := blook []) (l := [(65, .pu s_fround_Word)]) (C := noCuts) (by kernel_rfl) tab_ok ⟨o_fround_Word, trivial⟩ (fn := Try.f42) (by kernel_rfl) rfl (by kernel_rfl) (by decide) (by kernel_rfl) (F := fun k x => fround_FromInt.f k x.1) (m := m_fround_FromInt) (fun k x => rfl)
  (by exact trivial)
  (fun k ⟨(a0 : Int), _⟩ => by show LeT m_fround_FromInt (fround_FromInt.f k a0) _; unfold fround_FromInt.f; exact go)
end
section
def s_nat_size : FSpec := ⟨[(.row 22 (.int .u64))], [.int .i64], fun k x => (nat_size.f k x.1).map fun r => (r, ())⟩
def m_nat_size (r : Int) : TT s_nat_size.rs := (r, ())
@[reducible] def q0_nat_size : List Slot := [.tmp 0 [.ty (.row 22 (.int .u64))], .tmp 3 [.ty (.int .i64)]]
def g0_nat_size (k : Nat) (x : TS q0_nat_size) : Option (Int) := nat_size.l0 k x.1.1 x.2.1.1
def c_nat_size : Cuts (TT s_nat_size.rs) := ⟨⟨19, 19, []⟩, lookC [(0, ⟨q0_nat_size, fun k x => (g0_nat_size k x).map m_nat_size⟩)], lookC [], lookC []⟩
theorem o_nat_size : FOk Try.prog 127 s_nat_size :=
 fn_of (Bt := blook []) (l := []) (C := c_nat_size) (by kernel_rfl) tab_ok trivial (fn := Try.f127) (by kernel_rfl) rfl (by kernel_rfl) (by decide) (by kernel_rfl) (F := fun k x => nat_size.f k x.1) (m := m_nat_size) (fun k x => rfl)
  (by
   refine And.intro ?_ ?_
   ·refine ob_loop (sl := q0_nat_size) (F := g0_nat_size) (fun x => rfl) fun k ⟨⟨(x0 : List Int), _⟩, ⟨(x3 : Int), _⟩, _⟩ => ?_
    show LeT m_nat_size (nat_size.l0 (k + 1) x0 x3) _
    rw [nat_size.l0]; exact go
   exact trivial)
  (fun k ⟨(a0 : List Int), _⟩ => by show LeT m_nat_size (nat_size.f k a0) _; unfold nat_size.f; exact go)
end
section
attribute [local irreducible] limb_Len.f nat_size.f
def s_nat_Bits : FSpec := ⟨[(.row 22 (.int .u64))], [.int .i64], fun k x => (nat_Bits.f k x.1).map fun r => (r, ())⟩
def m_nat_Bits (r : Int) : TT s_nat_Bits.rs := (r, ())
theorem o_nat_Bits : FOk Try.prog 66 s_nat_Bits :=
 fn_of (Bt := blook []) (l := [(107, .pu s_limb_Len), (127, .pu s_nat_size)]) (C := noCuts) (by kernel_rfl) tab_ok ⟨o_limb_Len, o_nat_size, trivial⟩ (fn := Try.f66) (by kernel_rfl) rfl (by kernel_rfl) (by decide) (by kernel_rfl) (F := fun k x => nat_Bits.f k x.1) (m := m_nat_Bits) (fun k x => rfl)
  (by exact trivial)
  (fun k ⟨(a0 : List Int), _⟩ => by show LeT m_nat_Bits (nat_Bits.f k a0) _; unfold nat_Bits.f; exact go)
end
section
attribute [local irreducible] nat_Bits.f
def s_rat_Sign : FSpec := ⟨[(.cons .bool (.cons (.row 22 (.int .u64)) (.row 22 (.int .u64))))], [.int .i64], fun k x => (rat_Sign.f k x.1.1 x.1.2.1 x.1.2.2).map fun r => (r, ())⟩
def m_rat_Sign (r : Int) : TT s_rat_Sign.rs := (r, ())
theorem o_rat_Sign : FOk Try.prog 67 s_rat_Sign :=
 fn_of (Bt := blook []) (l := [(66, .pu s_nat_Bits)]) (C := noCuts) (by kernel_rfl) tab_ok ⟨o_nat_Bits, trivial⟩ (fn := Try.f67) (by kernel_rfl) rfl (by kernel_rfl) (by decide) (by kernel_rfl) (F := fun k x => rat_Sign.f k x.1.1 x.1.2.1 x.1.2.2) (m := m_rat_Sign) (fun k x => rfl)
  (by exact trivial)
  (fun k ⟨(a0 : Bool × List Int × List Int), _⟩ => by show LeT m_rat_Sign (rat_Sign.f k a0.1 a0.2.1 a0.2.2) _; unfold rat_Sign.f; exact go)
end
section
attribute [local irreducible] nat_size.f
def s_nat_Trim : FSpec := ⟨[(.row 22 (.int .u64))], [(.row 22 (.int .u64))], fun k x => (nat_Trim.f k x.1).map fun r => (r, ())⟩
def m_nat_Trim (r : List Int) : TT s_nat_Trim.rs := (r, ())
theorem o_nat_Trim : FOk Try.prog 128 s_nat_Trim :=
 fn_of (Bt := blook []) (l := [(127, .pu s_nat_size)]) (C := noCuts) (by kernel_rfl) tab_ok ⟨o_nat_size, trivial⟩ (fn := Try.f128) (by kernel_rfl) rfl (by kernel_rfl) (by decide) (by kernel_rfl) (F := fun k x => nat_Trim.f k x.1) (m := m_nat_Trim) (fun k x => rfl)
  (by exact trivial)
  (fun k ⟨(a0 : List Int), _⟩ => by show LeT m_nat_Trim (nat_Trim.f k a0) _; unfold nat_Trim.f; exact go)
end
section
attribute [local irreducible] nat_Trim.f
def s_nat_Of : FSpec := ⟨[.int .u64], [(.row 22 (.int .u64))], fun k x => (nat_Of.f k x.1).map fun r => (r, ())⟩
def m_nat_Of (r : List Int) : TT s_nat_Of.rs := (r, ())
theorem o_nat_Of : FOk Try.prog 86 s_nat_Of :=
 fn_of (Bt := blook []) (l := [(128, .pu s_nat_Trim)]) (C := noCuts) (by kernel_rfl) tab_ok ⟨o_nat_Trim, trivial⟩ (fn := Try.f86) (by kernel_rfl) rfl (by kernel_rfl) (by decide) (by kernel_rfl) (F := fun k x => nat_Of.f k x.1) (m := m_nat_Of) (fun k x => rfl)
  (by exact trivial)
  (fun k ⟨(a0 : Int), _⟩ => by show LeT m_nat_Of (nat_Of.f k a0) _; unfold nat_Of.f; exact go)
end
section
attribute [local irreducible] nat_size.f
def s_nat_Cmp : FSpec := ⟨[(.row 22 (.int .u64)), (.row 22 (.int .u64))], [.int .i64], fun k x => (nat_Cmp.f k x.1 x.2.1).map fun r => (r, ())⟩
def m_nat_Cmp (r : Int) : TT s_nat_Cmp.rs := (r, ())
@[reducible] def q0_nat_Cmp : List Slot := [.tmp 0 [.ty (.row 22 (.int .u64))], .tmp 1 [.ty (.row 22 (.int .u64))], .tmp 7 [.ty (.int .i64)]]
def g0_nat_Cmp (k : Nat) (x : TS q0_nat_Cmp) : Option (Int) := nat_Cmp.l0 k x.1.1 x.2.1.1 x.2.2.1.1
def c_nat_Cmp : Cuts (TT s_nat_Cmp.rs) := ⟨⟨44, 44, []⟩, lookC [(0, ⟨q0_nat_Cmp, fun k x => (g0_nat_Cmp k x).map m_nat_Cmp⟩)], lookC [], lookC []⟩
theorem o_nat_Cmp : FOk Try.prog 129 s_nat_Cmp :=
 fn_of (Bt := blook [(9, [0, 0, 3, 7, 0, 0, 48, 112, 255, 511]), (11, [0, 0, 3, 7, 0, 0, 48, 112, 255, 511])]) (l := [(127, .pu s_nat_size)]) (C := c_nat_Cmp) (by kernel_rfl) tab_ok ⟨o_nat_size, trivial⟩ (fn := Try.f129) (by kernel_rfl) rfl (by kernel_rfl) (by decide) (by kernel_rfl) (F := fun k x => nat_Cmp.f k x.1 x.2.1) (m := m_nat_Cmp) (fun k x => rfl)
  (by
   refine And.intro ?_ ?_
   ·refine ob_loop (sl := q0_nat_Cmp) (F := g0_nat_Cmp) (fun x => rfl) fun k ⟨⟨(x0 : List Int), _⟩, ⟨(x1 : List Int), _⟩, ⟨(x7 : Int), _⟩, _⟩ => ?_
    show LeT m_nat_Cmp (nat_Cmp.l0 (k + 1) x0 x1 x7) _
    rw [nat_Cmp.l0]; exact go
   exact trivial)
  (fun k ⟨(a0 : List Int), (a1 : List Int), _⟩ => by show LeT m_nat_Cmp (nat_Cmp.f k a0 a1) _; unfold nat_Cmp.f; exact go)
end
section
def s_limb_digit : FSpec := ⟨[.int .u64, .int .u64, .int .u64], [.int .u64, .int .u64], fun k x => (limb_digit.f k x.1 x.2.1 x.2.2.1).map fun r => (r.1, r.2, ())⟩
def m_limb_digit (r : Int × Int) : TT s_limb_digit.rs := (r.1, r.2, ())
@[reducible] def q0_limb_digit : List Slot := [.tmp 0 [.ty (.int .u64)], .tmp 1 [.ty (.int .u64)], .tmp 2 [.ty (.int .u64)], .tmp 8 [.ty (.int .u64)], .tmp 9 [.ty (.int .u64)], .tmp 10 [.ty (.int .u64)], .tmp 11 [.ty (.int .u64)]]
def g0_limb_digit (k : Nat) (x : TS q0_limb_digit) : Option (Int × Int) := limb_digit.l0 k x.1.1 x.2.1.1 x.2.2.1.1 x.2.2.2.1.1 x.2.2.2.2.1.1 x.2.2.2.2.2.1.1 x.2.2.2.2.2.2.1.1
@[reducible] def q1_limb_digit : List Slot := [.tmp 0 [.ty (.int .u64)], .tmp 1 [.ty (.int .u64)], .tmp 2 [.ty (.int .u64)], .tmp 8 [.ty (.int .u64)], .tmp 9 [.ty (.int .u64)], .tmp 10 [.ty (.int .u64)], .tmp 11 [.ty (.int .u64)], .tmp 33 [.ty .bool]]
def g1_limb_digit (k : Nat) (x : TS q1_limb_digit) : Option (Int × Int) := limb_digit.j1 k x.1.1 x.2.1.1 x.2.2.1.1 x.2.2.2.1.1 x.2.2.2.2.1.1 x.2.2.2.2.2.1.1 x.2.2.2.2.2.2.1.1 x.2.2.2.2.2.2.2.1.1
def c_limb_digit : Cuts (TT s_limb_digit.rs) := ⟨⟨50, 50, []⟩, lookC [(0, ⟨q0_limb_digit, fun k x => (g0_limb_digit k x).map m_limb_digit⟩)], lookC [], lookC [(4, ⟨q1_limb_digit, fun k x => (g1_limb_digit k x).map m_limb_digit⟩)]⟩
theorem o_limb_digit : FOk Try.prog 165 s_limb_digit :=
 fn_of (Bt := blook []) (l := []) (C := c_limb_digit) (by kernel_rfl) tab_ok trivial (fn := Try.f165) (by kernel_rfl) rfl (by kernel_rfl) (by decide) (by kernel_rfl) (F := fun k x => limb_digit.f k x.1 x.2.1 x.2.2.1) (m := m_limb_digit) (fun k x => rfl)
  (by
   refine And.intro ?_ ?_
   ·refine ob_loop (sl := q0_limb_digit) (F := g0_limb_digit) (fun x => rfl) fun k ⟨⟨(x0 : Int), _⟩, ⟨(x1 : Int), _⟩, ⟨(x2 : Int), _⟩, ⟨(x8 : Int), _⟩, ⟨(x9 : Int), _⟩, ⟨(x10 : Int), _⟩, ⟨(x11 : Int), _⟩, _⟩ => ?_
    show LeT m_limb_digit (limb_digit.l0 (k + 1) x0 x1 x2 x8 x9 x10 x11) _
    rw [limb_digit.l0]; exact go
   refine And.intro ?_ ?_
   ·refine ob_join1 (sl := q1_limb_digit) (F := g1_limb_digit) (fun x => rfl) fun k ⟨⟨(x0 : Int), _⟩, ⟨(x1 : Int), _⟩, ⟨(x2 : Int), _⟩, ⟨(x8 : Int), _⟩, ⟨(x9 : Int), _⟩, ⟨(x10 : Int), _⟩, ⟨(x11 : Int), _⟩, ⟨(x33 : Bool), _⟩, _⟩ => ?_
    show LeT m_limb_digit (limb_digit.j1 (k + 1) x0 x1 x2 x8 x9 x10 x11 x33) _
    rw [limb_digit.j1]; exact go
   exact trivial)
  (fun k ⟨(a0 : Int), (a1 : Int), (a2 : Int), _⟩ => by show LeT m_limb_digit (limb_digit.f k a0 a1 a2) _; unfold limb_digit.f; exact go)
end
section
attribute [local irreducible] limb_Len.f limb_digit.f
def s_limb_Div : FSpec := ⟨[.int .u64, .int .u64, .int .u64], [.int .u64, .int .u64, .bool], fun k x => (limb_Div.f k x.1 x.2.1 x.2.2.1).map fun r => (r.1, r.2.1, r.2.2, ())⟩
def m_limb_Div (r : Int × Int × Bool) : TT s_limb_Div.rs := (r.1, r.2.1, r.2.2, ())
theorem o_limb_Div : FOk Try.prog 122 s_limb_Div :=
 fn_of (Bt := blook [(5, [0, 0, 3, 0, 8, 0, 32, 120, 255, 511]), (9, [0, 1, 0, 7, 0, 0, 48, 15, 255, 511])]) (l := [(107, .pu s_limb_Len), (165, .pu s_limb_digit)]) (C := noCuts) (by kernel_rfl) tab_ok ⟨o_limb_Len, o_limb_digit, trivial⟩ (fn := Try.f122) (by kernel_rfl) rfl (by kernel_rfl) (by decide) (by kernel_rfl) (F := fun k x => limb_Div.f k x.1 x.2.1 x.2.2.1) (m := m_limb_Div) (fun k x => rfl)
  (by exact trivial)
  (fun k ⟨(a0 : Int), (a1 : Int), (a2 : Int), _⟩ => by show LeT m_limb_Div (limb_Div.f k a0 a1 a2) _; unfold limb_Div.f; exact go)
end
section
attribute [local irreducible] limb_Div.f nat_Trim.f
def s_quot_Word : FSpec := ⟨[(.row 22 (.int .u64)), .int .u64], [(.row 22 (.int .u64)), .int .u64, .bool], fun k x => (quot_Word.f k x.1 x.2.1).map fun r => (r.1, r.2.1, r.2.2, ())⟩
def m_quot_Word (r : List Int × Int × Bool) : TT s_quot_Word.rs := (r.1, r.2.1, r.2.2, ())
@[reducible] def q0_quot_Word : List Slot := [.tmp 0 [.ty (.row 22 (.int .u64))], .tmp 1 [.ty (.int .u64)], .tmp 7 [.own .mine 7 22 (.int .u64)], .tmp 8 [.ty (.int .u64)], .tmp 9 [.ty (.int .i64)]]
def g0_quot_Word (k : Nat) (x : TS q0_quot_Word) : Option (List Int × Int × Bool) := quot_Word.l0 k x.1.1 x.2.1.1 x.2.2.1.1 x.2.2.2.1.1 x.2.2.2.2.1.1
def c_quot_Word : Cuts (TT s_quot_Word.rs) := ⟨⟨44, 44, []⟩, lookC [(0, ⟨q0_quot_Word, fun k x => (g0_quot_Word k x).map m_quot_Word⟩)], lookC [], lookC []⟩
theorem o_quot_Word : FOk Try.prog 130 s_quot_Word :=
 fn_of (Bt := blook []) (l := [(122, .pu s_limb_Div), (128, .pu s_nat_Trim)]) (C := c_quot_Word) (by kernel_rfl) tab_ok ⟨o_limb_Div, o_nat_Trim, trivial⟩ (fn := Try.f130) (by kernel_rfl) rfl (by kernel_rfl) (by decide) (by kernel_rfl) (F := fun k x => quot_Word.f k x.1 x.2.1) (m := m_quot_Word) (fun k x => rfl)
  (by
   refine And.intro ?_ ?_
   ·refine ob_loop (sl := q0_quot_Word) (F := g0_quot_Word) (fun x => rfl) fun k ⟨⟨(x0 : List Int), _⟩, ⟨(x1 : Int), _⟩, ⟨(x7 : List Int), _⟩, ⟨(x8 : Int), _⟩, ⟨(x9 : Int), _⟩, _⟩ => ?_
    show LeT m_quot_Word (quot_Word.l0 (k + 1) x0 x1 x7 x8 x9) _
    rw [quot_Word.l0]; exact go
   exact trivial)
  (fun k ⟨(a0 : List Int), (a1 : Int), _⟩ => by show LeT m_quot_Word (quot_Word.f k a0 a1) _; unfold quot_Word.f; exact go)
end
section
def s_quot_long : FSpec := ⟨[(.row 22 (.int .u64)), (.row 22 (.int .u64))], [(.row 22 (.int .u64)), (.row 22 (.int .u64))], fun k x => (quot_long.f k x.1 x.2.1).map fun r => (r.1, r.2, ())⟩
theorem o_quot_long : FOk Try.prog 131 s_quot_long := ⟨by kernel_rfl, fun k x r h U w vs hU ha0 => by
 obtain ⟨r0, hr0, rfl⟩ := Option.map_eq_some_iff.mp h
 obtain ⟨cs0, vs0, rfl, q0, ha1⟩ := ha0.cons
 obtain ⟨A0, c0, rfl, C0, le0⟩ := row_arg q0
 obtain ⟨cs1, vs1, rfl, q1, ha2⟩ := ha1.cons
 obtain ⟨A1, c1, rfl, C1, le1⟩ := row_arg q1
 obtain rfl : vs1 = [] := ha2
 refine (quot_long.calls (k := k) (A0 := A0) (c0 := c0) (l0 := x.1) (hr0 := C0) (hc0 := le0) (A1 := A1) (c1 := c1) (l1 := x.2.1) (hr1 := C1) (hc1 := le1) (r1 := r0.1) (r2 := r0.2) (w := w) (h := hr0)).mono ?_
 rintro e w' ⟨v0, v1, rfl, R0, R1, hb⟩
 exact ⟨_, rfl, ⟨[_, _], rfl, ⟨⟨_, rfl, row_res hU R0⟩, ⟨⟨_, rfl, row_res hU R1⟩, rfl⟩⟩⟩, hb⟩⟩
end
section
attribute [local irreducible] nat_Of.f nat_Trim.f nat_Cmp.f quot_Word.f quot_long.f
def s_quot_Div : FSpec := ⟨[(.row 22 (.int .u64)), (.row 22 (.int .u64))], [(.row 22 (.int .u64)), (.row 22 (.int .u64)), .bool], fun k x => (quot_Div.f k x.1 x.2.1).map fun r => (r.1, r.2.1, r.2.2, ())⟩
def m_quot_Div (r : List Int × List Int × Bool) : TT s_quot_Div.rs := (r.1, r.2.1, r.2.2, ())
theorem o_quot_Div : FOk Try.prog 69 s_quot_Div :=
 fn_of (Bt := blook []) (l := [(86, .pu s_nat_Of), (128, .pu s_nat_Trim), (129, .pu s_nat_Cmp), (130, .pu s_quot_Word), (131, .pu s_quot_long)]) (C := noCuts) (by kernel_rfl) tab_ok ⟨o_nat_Of, o_nat_Trim, o_nat_Cmp, o_quot_Word, o_quot_long, trivial⟩ (fn := Try.f69) (by kernel_rfl) rfl (by kernel_rfl) (by decide) (by kernel_rfl) (F := fun k x => quot_Div.f k x.1 x.2.1) (m := m_quot_Div) (fun k x => rfl)
  (by exact trivial)
  (fun k ⟨(a0 : List Int), (a1 : List Int), _⟩ => by show LeT m_quot_Div (quot_Div.f k a0 a1) _; unfold quot_Div.f; exact go)
end
section
attribute [local irreducible] nat_Trim.f
def s_nat_Shl : FSpec := ⟨[(.row 22 (.int .u64)), .int .i64], [(.row 22 (.int .u64))], fun k x => (nat_Shl.f k x.1 x.2.1).map fun r => (r, ())⟩
def m_nat_Shl (r : List Int) : TT s_nat_Shl.rs := (r, ())
@[reducible] def q0_nat_Shl : List Slot := [.tmp 6 [.ty (.int .i64)], .tmp 7 [.own .mine 7 22 (.int .u64)], .tmp 8 [.ty (.int .u64)], .tmp 25 [.ty (.row 22 (.int .u64))], .tmp 26 [.ty (.int .i64)], .tmp 27 [.ty (.int .i64)]]
def g0_nat_Shl (k : Nat) (x : TS q0_nat_Shl) : Option (List Int) := match x with | ⟨⟨(x6 : Int), _⟩, ⟨(x7 : List Int), _⟩, ⟨(x8 : Int), _⟩, ⟨(x25 : List Int), _⟩, ⟨(x26 : Int), _⟩, ⟨(x27 : Int), _⟩, _⟩ => if 0 ≤ x6 ∧ x6 < 64 then nat_Shl.l0 k x6 x7 x8 x25 x26 x27 else none
def c_nat_Shl : Cuts (TT s_nat_Shl.rs) := ⟨⟨50, 50, []⟩, lookC [(0, ⟨q0_nat_Shl, fun k x => (g0_nat_Shl k x).map m_nat_Shl⟩)], lookC [], lookC []⟩
theorem o_nat_Shl : FOk Try.prog 70 s_nat_Shl :=
 fn_of (Bt := blook []) (l := [(128, .pu s_nat_Trim)]) (C := c_nat_Shl) (by kernel_rfl) tab_ok ⟨o_nat_Trim, trivial⟩ (fn := Try.f70) (by kernel_rfl) rfl (by kernel_rfl) (by decide) (by kernel_rfl) (F := fun k x => nat_Shl.f k x.1 x.2.1) (m := m_nat_Shl) (fun k x => rfl)
  (by
   refine And.intro ?_ ?_
   ·refine ob_loop (sl := q0_nat_Shl) (F := g0_nat_Shl) (fun ⟨⟨(x6 : Int), _⟩, ⟨(x7 : List Int), _⟩, ⟨(x8 : Int), _⟩, ⟨(x25 : List Int), _⟩, ⟨(x26 : Int), _⟩, ⟨(x27 : Int), _⟩, _⟩ => by show (if 0 ≤ x6 ∧ x6 < 64 then nat_Shl.l0 0 x6 x7 x8 x25 x26 x27 else none) = none; split <;> rfl) fun k ⟨⟨(x6 : Int), _⟩, ⟨(x7 : List Int), _⟩, ⟨(x8 : Int), _⟩, ⟨(x25 : List Int), _⟩, ⟨(x26 : Int), _⟩, ⟨(x27 : Int), _⟩, _⟩ => ?_
    show LeT m_nat_Shl (if 0 ≤ x6 ∧ x6 < 64 then nat_Shl.l0 (k + 1) x6 x7 x8 x25 x26 x27 else none) _
    rw [nat_Shl.l0]; exact go
   exact trivial)
  (fun k ⟨(a0 : List Int), (a1 : Int), _⟩ => by show LeT m_nat_Shl (nat_Shl.f k a0 a1) _; unfold nat_Shl.f; exact go)
end
section
def s_limb_Add : FSpec := ⟨[.int .u64, .int .u64, .int .u64], [.int .u64, .int .u64], fun _ x => (limb_Add.f x.1 x.2.1 x.2.2.1).map fun r => (r.1, r.2, ())⟩
def m_limb_Add (r : Int × Int) : TT s_limb_Add.rs := (r.1, r.2, ())
theorem o_limb_Add : FOk Try.prog 170 s_limb_Add :=
 fn_of (Bt := blook []) (l := []) (C := noCuts) (by kernel_rfl) tab_ok trivial (fn := Try.f170) (by kernel_rfl) rfl (by kernel_rfl) (by decide) (by kernel_rfl) (F := fun k x => limb_Add.f x.1 x.2.1 x.2.2.1) (m := m_limb_Add) (fun k x => rfl)
  (by exact trivial)
  (fun k ⟨(a0 : Int), (a1 : Int), (a2 : Int), _⟩ => by show LeT m_limb_Add (limb_Add.f a0 a1 a2) _; unfold limb_Add.f; exact go)
end
section
attribute [local irreducible] nat_Trim.f limb_Add.f
def s_nat_Add : FSpec := ⟨[(.row 22 (.int .u64)), (.row 22 (.int .u64))], [(.row 22 (.int .u64))], fun k x => (nat_Add.f k x.1 x.2.1).map fun r => (r, ())⟩
def m_nat_Add (r : List Int) : TT s_nat_Add.rs := (r, ())
@[reducible] def q0_nat_Add : List Slot := [.tmp 1 [.ty (.row 22 (.int .u64))], .tmp 5 [.own .mine 5 22 (.int .u64)], .tmp 6 [.ty (.int .u64)], .tmp 21 [.ty (.row 22 (.int .u64))], .tmp 22 [.ty (.int .i64)], .tmp 23 [.ty (.int .i64)]]
def g0_nat_Add (k : Nat) (x : TS q0_nat_Add) : Option (List Int) := nat_Add.l0 k x.1.1 x.2.1.1 x.2.2.1.1 x.2.2.2.1.1 x.2.2.2.2.1.1 x.2.2.2.2.2.1.1
def c_nat_Add : Cuts (TT s_nat_Add.rs) := ⟨⟨53, 53, []⟩, lookC [(0, ⟨q0_nat_Add, fun k x => (g0_nat_Add k x).map m_nat_Add⟩)], lookC [], lookC []⟩
theorem e_nat_Add_l1 : nat_Add.l1 = nat_Add.l0 := by
 funext k
 induction k with
 | zero => rfl
 | succ k ih => funext x0 x1 x2 x3 x4 x5; simp only [nat_Add.l1, nat_Add.l0, ih]
theorem o_nat_Add : FOk Try.prog 132 s_nat_Add :=
 fn_of (Bt := blook []) (l := [(128, .pu s_nat_Trim), (170, .pu s_limb_Add)]) (C := c_nat_Add) (by kernel_rfl) tab_ok ⟨o_nat_Trim, o_limb_Add, trivial⟩ (fn := Try.f132) (by kernel_rfl) rfl (by kernel_rfl) (by decide) (by kernel_rfl) (F := fun k x => nat_Add.f k x.1 x.2.1) (m := m_nat_Add) (fun k x => rfl)
  (by
   refine And.intro ?_ ?_
   ·refine ob_loop (sl := q0_nat_Add) (F := g0_nat_Add) (fun x => rfl) fun k ⟨⟨(x1 : List Int), _⟩, ⟨(x5 : List Int), _⟩, ⟨(x6 : Int), _⟩, ⟨(x21 : List Int), _⟩, ⟨(x22 : Int), _⟩, ⟨(x23 : Int), _⟩, _⟩ => ?_
    show LeT m_nat_Add (nat_Add.l0 (k + 1) x1 x5 x6 x21 x22 x23) _
    rw [nat_Add.l0]; (try simp only [e_nat_Add_l1]); exact go
   exact trivial)
  (fun k ⟨(a0 : List Int), (a1 : List Int), _⟩ => by show LeT m_nat_Add (nat_Add.f k a0 a1) _; unfold nat_Add.f; (try simp only [e_nat_Add_l1]); exact go)
end
section
attribute [local irreducible] nat_size.f
def s_nat_Word : FSpec := ⟨[(.row 22 (.int .u64))], [.int .u64, .bool], fun k x => (nat_Word.f k x.1).map fun r => (r.1, r.2, ())⟩
def m_nat_Word (r : Int × Bool) : TT s_nat_Word.rs := (r.1, r.2, ())
theorem o_nat_Word : FOk Try.prog 133 s_nat_Word :=
 fn_of (Bt := blook []) (l := [(127, .pu s_nat_size)]) (C := noCuts) (by kernel_rfl) tab_ok ⟨o_nat_size, trivial⟩ (fn := Try.f133) (by kernel_rfl) rfl (by kernel_rfl) (by decide) (by kernel_rfl) (F := fun k x => nat_Word.f k x.1) (m := m_nat_Word) (fun k x => rfl)
  (by exact trivial)
  (fun k ⟨(a0 : List Int), _⟩ => by show LeT m_nat_Word (nat_Word.f k a0) _; unfold nat_Word.f; exact go)
end
section
attribute [local irreducible] nat_Trim.f
def s_nat_Shr : FSpec := ⟨[(.row 22 (.int .u64)), .int .i64], [(.row 22 (.int .u64))], fun k x => (nat_Shr.f k x.1 x.2.1).map fun r => (r, ())⟩
def m_nat_Shr (r : List Int) : TT s_nat_Shr.rs := (r, ())
@[reducible] def q0_nat_Shr : List Slot := [.tmp 0 [.ty (.row 22 (.int .u64))], .tmp 6 [.ty (.int .i64)], .tmp 7 [.own .mine 7 22 (.int .u64)], .tmp 8 [.ty (.int .i64)]]
def g0_nat_Shr (k : Nat) (x : TS q0_nat_Shr) : Option (List Int) := match x with | ⟨⟨(x0 : List Int), _⟩, ⟨(x6 : Int), _⟩, ⟨(x7 : List Int), _⟩, ⟨(x8 : Int), _⟩, _⟩ => if 0 ≤ x6 ∧ x6 < 64 then nat_Shr.l0 k x0 x6 x7 x8 else none
def c_nat_Shr : Cuts (TT s_nat_Shr.rs) := ⟨⟨59, 59, []⟩, lookC [(0, ⟨q0_nat_Shr, fun k x => (g0_nat_Shr k x).map m_nat_Shr⟩)], lookC [], lookC []⟩
theorem o_nat_Shr : FOk Try.prog 134 s_nat_Shr :=
 fn_of (Bt := blook [(12, [0, 0, 0, 6, 14, 0, 62, 0, 128, 0, 512, 1920, 4094, 8190, 16383, 32767])]) (l := [(128, .pu s_nat_Trim)]) (C := c_nat_Shr) (by kernel_rfl) tab_ok ⟨o_nat_Trim, trivial⟩ (fn := Try.f134) (by kernel_rfl) rfl (by kernel_rfl) (by decide) (by kernel_rfl) (F := fun k x => nat_Shr.f k x.1 x.2.1) (m := m_nat_Shr) (fun k x => rfl)
  (by
   refine And.intro ?_ ?_
   ·refine ob_loop (sl := q0_nat_Shr) (F := g0_nat_Shr) (fun ⟨⟨(x0 : List Int), _⟩, ⟨(x6 : Int), _⟩, ⟨(x7 : List Int), _⟩, ⟨(x8 : Int), _⟩, _⟩ => by show (if 0 ≤ x6 ∧ x6 < 64 then nat_Shr.l0 0 x0 x6 x7 x8 else none) = none; split <;> rfl) fun k ⟨⟨(x0 : List Int), _⟩, ⟨(x6 : Int), _⟩, ⟨(x7 : List Int), _⟩, ⟨(x8 : Int), _⟩, _⟩ => ?_
    show LeT m_nat_Shr (if 0 ≤ x6 ∧ x6 < 64 then nat_Shr.l0 (k + 1) x0 x6 x7 x8 else none) _
    rw [nat_Shr.l0]; exact go
   exact trivial)
  (fun k ⟨(a0 : List Int), (a1 : Int), _⟩ => by show LeT m_nat_Shr (nat_Shr.f k a0 a1) _; unfold nat_Shr.f; exact go)
end
section
def s_nat_Bit : FSpec := ⟨[(.row 22 (.int .u64)), .int .i64], [.bool], fun _ x => (nat_Bit.f x.1 x.2.1).map fun r => (r, ())⟩
def m_nat_Bit (r : Bool) : TT s_nat_Bit.rs := (r, ())
theorem o_nat_Bit : FOk Try.prog 135 s_nat_Bit :=
 fn_of (Bt := blook []) (l := []) (C := noCuts) (by kernel_rfl) tab_ok trivial (fn := Try.f135) (by kernel_rfl) rfl (by kernel_rfl) (by decide) (by kernel_rfl) (F := fun k x => nat_Bit.f x.1 x.2.1) (m := m_nat_Bit) (fun k x => rfl)
  (by exact trivial)
  (fun k ⟨(a0 : List Int), (a1 : Int), _⟩ => by show LeT m_nat_Bit (nat_Bit.f a0 a1) _; unfold nat_Bit.f; exact go)
end
section
attribute [local irreducible] nat_Bits.f nat_Bit.f
def s_nat_Even : FSpec := ⟨[(.row 22 (.int .u64))], [.int .i64], fun k x => (nat_Even.f k x.1).map fun r => (r, ())⟩
def m_nat_Even (r : Int) : TT s_nat_Even.rs := (r, ())
@[reducible] def q0_nat_Even : List Slot := [.tmp 0 [.ty (.row 22 (.int .u64))], .tmp 7 [.ty (.int .i64)], .tmp 8 [.ty (.int .i64)]]
def g0_nat_Even (k : Nat) (x : TS q0_nat_Even) : Option (Int) := nat_Even.l0 k x.1.1 x.2.1.1 x.2.2.1.1
def c_nat_Even : Cuts (TT s_nat_Even.rs) := ⟨⟨16, 16, []⟩, lookC [(0, ⟨q0_nat_Even, fun k x => (g0_nat_Even k x).map m_nat_Even⟩)], lookC [], lookC []⟩
theorem o_nat_Even : FOk Try.prog 136 s_nat_Even :=
 fn_of (Bt := blook []) (l := [(66, .pu s_nat_Bits), (135, .pu s_nat_Bit)]) (C := c_nat_Even) (by kernel_rfl) tab_ok ⟨o_nat_Bits, o_nat_Bit, trivial⟩ (fn := Try.f136) (by kernel_rfl) rfl (by kernel_rfl) (by decide) (by kernel_rfl) (F := fun k x => nat_Even.f k x.1) (m := m_nat_Even) (fun k x => rfl)
  (by
   refine And.intro ?_ ?_
   ·refine ob_loop (sl := q0_nat_Even) (F := g0_nat_Even) (fun x => rfl) fun k ⟨⟨(x0 : List Int), _⟩, ⟨(x7 : Int), _⟩, ⟨(x8 : Int), _⟩, _⟩ => ?_
    show LeT m_nat_Even (nat_Even.l0 (k + 1) x0 x7 x8) _
    rw [nat_Even.l0]; exact go
   exact trivial)
  (fun k ⟨(a0 : List Int), _⟩ => by show LeT m_nat_Even (nat_Even.f k a0) _; unfold nat_Even.f; exact go)
end
section
attribute [local irreducible] fbits_Inf.f fround_Word.f nat_Bits.f fround_made.f nat_Shl.f nat_Of.f fround_even.f nat_Add.f nat_Word.f nat_Shr.f nat_Bit.f nat_Even.f
def s_fround_Of : FSpec := ⟨[.bool, (.row 22 (.int .u64)), .int .i64, .bool], [.int .u64], fun k x => (fround_Of.f k x.1 x.2.1 x.2.2.1 x.2.2.2.1).map fun r => (r, ())⟩
def m_fround_Of (r : Int) : TT s_fround_Of.rs := (r, ())
@[reducible] def q0_fround_Of : List Slot := [.tmp 0 [.ty .bool], .tmp 1 [.ty (.row 22 (.int .u64))], .tmp 2 [.ty (.int .i64)]]
def g0_fround_Of (k : Nat) (x : TS q0_fround_Of) : Option (Int) := fround_Of.j0 k x.1.1 x.2.1.1 x.2.2.1.1
def c_fround_Of : Cuts (TT s_fround_Of.rs) := ⟨⟨72, 72, []⟩, lookC [], lookC [(5, ⟨q0_fround_Of, fun k x => (g0_fround_Of k x).map m_fround_Of⟩)], lookC []⟩
theorem o_fround_Of : FOk Try.prog 71 s_fround_Of :=
 fn_of (Bt := blook []) (l := [(39, .pu s_fbits_Inf), (65, .pu s_fround_Word), (66, .pu s_nat_Bits), (68, .pu s_fround_made), (70, .pu s_nat_Shl), (86, .pu s_nat_Of), (126, .pu s_fround_even), (132, .pu s_nat_Add), (133, .pu s_nat_Word), (134, .pu s_nat_Shr), (135, .pu s_nat_Bit), (136, .pu s_nat_Even)]) (C := c_fround_Of) (by kernel_rfl) tab_ok ⟨o_fbits_Inf, o_fround_Word, o_nat_Bits, o_fround_made, o_nat_Shl, o_nat_Of, o_fround_even, o_nat_Add, o_nat_Word, o_nat_Shr, o_nat_Bit, o_nat_Even, trivial⟩ (fn := Try.f71) (by kernel_rfl) rfl (by kernel_rfl) (by decide) (by kernel_rfl) (F := fun k x => fround_Of.f k x.1 x.2.1 x.2.2.1 x.2.2.2.1) (m := m_fround_Of) (fun k x => rfl)
  (by
   refine And.intro ?_ ?_
   ·refine ob_join1 (sl := q0_fround_Of) (F := g0_fround_Of) (fun x => rfl) fun k ⟨⟨(x0 : Bool), _⟩, ⟨(x1 : List Int), _⟩, ⟨(x2 : Int), _⟩, _⟩ => ?_
    show LeT m_fround_Of (fround_Of.j0 (k + 1) x0 x1 x2) _
    rw [fround_Of.j0]; exact go
   exact trivial)
  (fun k ⟨(a0 : Bool), (a1 : List Int), (a2 : Int), (a3 : Bool), _⟩ => by show LeT m_fround_Of (fround_Of.f k a0 a1 a2 a3) _; unfold fround_Of.f; exact go)
end
section
attribute [local irreducible] fbits_Inf.f nat_Bits.f rat_Sign.f fround_made.f quot_Div.f nat_Shl.f fround_Of.f
def s_fround_FromRat : FSpec := ⟨[(.cons .bool (.cons (.row 22 (.int .u64)) (.row 22 (.int .u64))))], [.int .u64], fun k x => (fround_FromRat.f k x.1.1 x.1.2.1 x.1.2.2).map fun r => (r, ())⟩
def m_fround_FromRat (r : Int) : TT s_fround_FromRat.rs := (r, ())
theorem o_fround_FromRat : FOk Try.prog 18 s_fround_FromRat :=
 fn_of (Bt := blook [(1, [0, 1, 3, 0, 8, 31, 63, 127]), (7, [0, 1, 0, 7, 0, 16, 63, 127, 255, 255, 255, 511, 3071, 8191])]) (l := [(39, .pu s_fbits_Inf), (66, .pu s_nat_Bits), (67, .pu s_rat_Sign), (68, .pu s_fround_made), (69, .pu s_quot_Div), (70, .pu s_nat_Shl), (71, .pu s_fround_Of)]) (C := noCuts) (by kernel_rfl) tab_ok ⟨o_fbits_Inf, o_nat_Bits, o_rat_Sign, o_fround_made, o_quot_Div, o_nat_Shl, o_fround_Of, trivial⟩ (fn := Try.f18) (by kernel_rfl) rfl (by kernel_rfl) (by decide) (by kernel_rfl) (F := fun k x => fround_FromRat.f k x.1.1 x.1.2.1 x.1.2.2) (m := m_fround_FromRat) (fun k x => rfl)
  (by exact trivial)
  (fun k ⟨(a0 : Bool × List Int × List Int), _⟩ => by show LeT m_fround_FromRat (fround_FromRat.f k a0.1 a0.2.1 a0.2.2) _; unfold fround_FromRat.f; unfold fround_FromRat.j0; exact goq)
end
section
def s_gcd_words : FSpec := ⟨[.int .u64, .int .u64], [.int .u64], fun k x => (gcd_words.f k x.1 x.2.1).map fun r => (r, ())⟩
def m_gcd_words (r : Int) : TT s_gcd_words.rs := (r, ())
@[reducible] def q0_gcd_words : List Slot := [.tmp 0 [.ty (.int .u64)], .tmp 1 [.ty (.int .u64)]]
def g0_gcd_words (k : Nat) (x : TS q0_gcd_words) : Option (Int) := gcd_words.l0 k x.1.1 x.2.1.1
def c_gcd_words : Cuts (TT s_gcd_words.rs) := ⟨⟨12, 12, []⟩, lookC [(0, ⟨q0_gcd_words, fun k x => (g0_gcd_words k x).map m_gcd_words⟩)], lookC [], lookC []⟩
theorem o_gcd_words : FOk Try.prog 178 s_gcd_words :=
 fn_of (Bt := blook [(2, [0, 0, 0, 6, 3, 31])]) (l := []) (C := c_gcd_words) (by kernel_rfl) tab_ok trivial (fn := Try.f178) (by kernel_rfl) rfl (by kernel_rfl) (by decide) (by kernel_rfl) (F := fun k x => gcd_words.f k x.1 x.2.1) (m := m_gcd_words) (fun k x => rfl)
  (by
   refine And.intro ?_ ?_
   ·refine ob_loop (sl := q0_gcd_words) (F := g0_gcd_words) (fun x => rfl) fun k ⟨⟨(x0 : Int), _⟩, ⟨(x1 : Int), _⟩, _⟩ => ?_
    show LeT m_gcd_words (gcd_words.l0 (k + 1) x0 x1) _
    rw [gcd_words.l0]; exact go
   exact trivial)
  (fun k ⟨(a0 : Int), (a1 : Int), _⟩ => by show LeT m_gcd_words (gcd_words.f k a0 a1) _; unfold gcd_words.f; exact go)
end
section
attribute [local irreducible] quot_Div.f nat_Of.f nat_Trim.f quot_Word.f nat_Word.f gcd_words.f
def s_gcd_Gcd : FSpec := ⟨[(.row 22 (.int .u64)), (.row 22 (.int .u64))], [(.row 22 (.int .u64))], fun k x => (gcd_Gcd.f k x.1 x.2.1).map fun r => (r, ())⟩
def m_gcd_Gcd (r : List Int) : TT s_gcd_Gcd.rs := (r, ())
@[reducible] def q0_gcd_Gcd : List Slot := [.tmp 0 [.ty (.row 22 (.int .u64))], .tmp 1 [.ty (.row 22 (.int .u64))]]
def g0_gcd_Gcd (k : Nat) (x : TS q0_gcd_Gcd) : Option (List Int) := gcd_Gcd.l0 k x.1.1 x.2.1.1
def c_gcd_Gcd : Cuts (TT s_gcd_Gcd.rs) := ⟨⟨48, 48, []⟩, lookC [(0, ⟨q0_gcd_Gcd, fun k x => (g0_gcd_Gcd k x).map m_gcd_Gcd⟩)], lookC [], lookC []⟩
theorem o_gcd_Gcd : FOk Try.prog 160 s_gcd_Gcd :=
 fn_of (Bt := blook []) (l := [(69, .pu s_quot_Div), (86, .pu s_nat_Of), (128, .pu s_nat_Trim), (130, .pu s_quot_Word), (133, .pu s_nat_Word), (178, .pu s_gcd_words)]) (C := c_gcd_Gcd) (by kernel_rfl) tab_ok ⟨o_quot_Div, o_nat_Of, o_nat_Trim, o_quot_Word, o_nat_Word, o_gcd_words, trivial⟩ (fn := Try.f160) (by kernel_rfl) rfl (by kernel_rfl) (by decide) (by kernel_rfl) (F := fun k x => gcd_Gcd.f k x.1 x.2.1) (m := m_gcd_Gcd) (fun k x => rfl)
  (by
   refine And.intro ?_ ?_
   ·refine ob_loop (sl := q0_gcd_Gcd) (F := g0_gcd_Gcd) (fun x => rfl) fun k ⟨⟨(x0 : List Int), _⟩, ⟨(x1 : List Int), _⟩, _⟩ => ?_
    show LeT m_gcd_Gcd (gcd_Gcd.l0 (k + 1) x0 x1) _
    rw [gcd_Gcd.l0]; exact go
   exact trivial)
  (fun k ⟨(a0 : List Int), (a1 : List Int), _⟩ => by show LeT m_gcd_Gcd (gcd_Gcd.f k a0 a1) _; unfold gcd_Gcd.f; exact go)
end
section
attribute [local irreducible] quot_Div.f gcd_Gcd.f
def s_gcd_Reduce : FSpec := ⟨[(.row 22 (.int .u64)), (.row 22 (.int .u64))], [(.row 22 (.int .u64)), (.row 22 (.int .u64))], fun k x => (gcd_Reduce.f k x.1 x.2.1).map fun r => (r.1, r.2, ())⟩
def m_gcd_Reduce (r : List Int × List Int) : TT s_gcd_Reduce.rs := (r.1, r.2, ())
theorem o_gcd_Reduce : FOk Try.prog 102 s_gcd_Reduce :=
 fn_of (Bt := blook []) (l := [(69, .pu s_quot_Div), (160, .pu s_gcd_Gcd)]) (C := noCuts) (by kernel_rfl) tab_ok ⟨o_quot_Div, o_gcd_Gcd, trivial⟩ (fn := Try.f102) (by kernel_rfl) rfl (by kernel_rfl) (by decide) (by kernel_rfl) (F := fun k x => gcd_Reduce.f k x.1 x.2.1) (m := m_gcd_Reduce) (fun k x => rfl)
  (by exact trivial)
  (fun k ⟨(a0 : List Int), (a1 : List Int), _⟩ => by show LeT m_gcd_Reduce (gcd_Reduce.f k a0 a1) _; unfold gcd_Reduce.f; exact go)
end
section
attribute [local irreducible] gcd_Reduce.f
def s_rat_lowest : FSpec := ⟨[.bool, (.row 22 (.int .u64)), (.row 22 (.int .u64))], [(.cons .bool (.cons (.row 22 (.int .u64)) (.row 22 (.int .u64))))], fun k x => (rat_lowest.f k x.1 x.2.1 x.2.2.1).map fun r => ((r.1, r.2.1, r.2.2), ())⟩
def m_rat_lowest (r : Bool × List Int × List Int) : TT s_rat_lowest.rs := ((r.1, r.2.1, r.2.2), ())
theorem o_rat_lowest : FOk Try.prog 99 s_rat_lowest :=
 fn_of (Bt := blook []) (l := [(102, .pu s_gcd_Reduce)]) (C := noCuts) (by kernel_rfl) tab_ok ⟨o_gcd_Reduce, trivial⟩ (fn := Try.f99) (by kernel_rfl) rfl (by kernel_rfl) (by decide) (by kernel_rfl) (F := fun k x => rat_lowest.f k x.1 x.2.1 x.2.2.1) (m := m_rat_lowest) (fun k x => rfl)
  (by exact trivial)
  (fun k ⟨(a0 : Bool), (a1 : List Int), (a2 : List Int), _⟩ => by show LeT m_rat_lowest (rat_lowest.f k a0 a1 a2) _; unfold rat_lowest.f; exact go)
end
section
attribute [local irreducible] nat_Bits.f rat_lowest.f
def s_rat_Make : FSpec := ⟨[.bool, (.row 22 (.int .u64)), (.row 22 (.int .u64))], [(.cons .bool (.cons (.row 22 (.int .u64)) (.row 22 (.int .u64)))), .int .i64], fun k x => (rat_Make.f k x.1 x.2.1 x.2.2.1).map fun r => ((r.1, r.2.1, r.2.2.1), r.2.2.2, ())⟩
def m_rat_Make (r : Bool × List Int × List Int × Int) : TT s_rat_Make.rs := ((r.1, r.2.1, r.2.2.1), r.2.2.2, ())
theorem o_rat_Make : FOk Try.prog 85 s_rat_Make :=
 fn_of (Bt := blook []) (l := [(66, .pu s_nat_Bits), (99, .pu s_rat_lowest)]) (C := noCuts) (by kernel_rfl) tab_ok ⟨o_nat_Bits, o_rat_lowest, trivial⟩ (fn := Try.f85) (by kernel_rfl) rfl (by kernel_rfl) (by decide) (by kernel_rfl) (F := fun k x => rat_Make.f k x.1 x.2.1 x.2.2.1) (m := m_rat_Make) (fun k x => rfl)
  (by exact trivial)
  (fun k ⟨(a0 : Bool), (a1 : List Int), (a2 : List Int), _⟩ => by show LeT m_rat_Make (rat_Make.f k a0 a1 a2) _; unfold rat_Make.f; exact go)
end
section
attribute [local irreducible] nat_Shl.f fbits_Parts.f rat_Make.f nat_Of.f
def s_fround_ToRat : FSpec := ⟨[.int .u64], [(.cons .bool (.cons (.row 22 (.int .u64)) (.row 22 (.int .u64)))), .int .i64], fun k x => (fround_ToRat.f k x.1).map fun r => ((r.1, r.2.1, r.2.2.1), r.2.2.2, ())⟩
def m_fround_ToRat (r : Bool × List Int × List Int × Int) : TT s_fround_ToRat.rs := ((r.1, r.2.1, r.2.2.1), r.2.2.2, ())
theorem o_fround_ToRat : FOk Try.prog 26 s_fround_ToRat :=
 fn_of (Bt := blook []) (l := [(70, .pu s_nat_Shl), (84, .pu s_fbits_Parts), (85, .pu s_rat_Make), (86, .pu s_nat_Of)]) (C := noCuts) (by kernel_rfl) tab_ok ⟨o_nat_Shl, o_fbits_Parts, o_rat_Make, o_nat_Of, trivial⟩ (fn := Try.f26) (by kernel_rfl) rfl (by kernel_rfl) (by decide) (by kernel_rfl) (F := fun k x => fround_ToRat.f k x.1) (m := m_fround_ToRat) (fun k x => rfl)
  (by exact trivial)
  (fun k ⟨(a0 : Int), _⟩ => by show LeT m_fround_ToRat (fround_ToRat.f k a0) _; unfold fround_ToRat.f; exact go)
end
section
def s_gradineref09_Neg : FSpec := ⟨[.int .u64], [.bool], fun _ x => (gradineref09_Neg.f x.1).map fun r => (r, ())⟩
def m_gradineref09_Neg (r : Bool) : TT s_gradineref09_Neg.rs := (r, ())
theorem o_gradineref09_Neg : FOk Try.prog 14 s_gradineref09_Neg :=
 fn_of (Bt := blook []) (l := []) (C := noCuts) (by kernel_rfl) tab_ok trivial (fn := Try.f14) (by kernel_rfl) rfl (by kernel_rfl) (by decide) (by kernel_rfl) (F := fun k x => gradineref09_Neg.f x.1) (m := m_gradineref09_Neg) (fun k x => rfl)
  (by exact trivial)
  (fun k ⟨(a0 : Int), _⟩ => by show LeT m_gradineref09_Neg (gradineref09_Neg.f a0) _; unfold gradineref09_Neg.f; exact go)
end
section
def s_gradineplain_Long : FSpec := ⟨[(.cons .bool (.cons (.row 22 (.int .u64)) (.row 22 (.int .u64)))), .int .i64], [.bool], fun _ x => (gradineplain_Long.f x.1.1 x.1.2.1 x.1.2.2 x.2.1).map fun r => (r, ())⟩
def m_gradineplain_Long (r : Bool) : TT s_gradineplain_Long.rs := (r, ())
theorem o_gradineplain_Long : FOk Try.prog 63 s_gradineplain_Long :=
 fn_of (Bt := blook []) (l := []) (C := noCuts) (by kernel_rfl) tab_ok trivial (fn := Try.f63) (by kernel_rfl) rfl (by kernel_rfl) (by decide) (by kernel_rfl) (F := fun k x => gradineplain_Long.f x.1.1 x.1.2.1 x.1.2.2 x.2.1) (m := m_gradineplain_Long) (fun k x => rfl)
  (by exact trivial)
  (fun k ⟨(a0 : Bool × List Int × List Int), (a1 : Int), _⟩ => by show LeT m_gradineplain_Long (gradineplain_Long.f a0.1 a0.2.1 a0.2.2 a1) _; unfold gradineplain_Long.f; exact go)
end
section
def s_gradineref02_Size : FSpec := ⟨[(.row 22 (.int .u64))], [.int .i64], fun k x => (gradineref02_Size.f k x.1).map fun r => (r, ())⟩
def m_gradineref02_Size (r : Int) : TT s_gradineref02_Size.rs := (r, ())
@[reducible] def q0_gradineref02_Size : List Slot := [.tmp 0 [.ty (.row 22 (.int .u64))], .tmp 3 [.ty (.int .i64)]]
def g0_gradineref02_Size (k : Nat) (x : TS q0_gradineref02_Size) : Option (Int) := gradineref02_Size.l0 k x.1.1 x.2.1.1
def c_gradineref02_Size : Cuts (TT s_gradineref02_Size.rs) := ⟨⟨19, 19, []⟩, lookC [(0, ⟨q0_gradineref02_Size, fun k x => (g0_gradineref02_Size k x).map m_gradineref02_Size⟩)], lookC [], lookC []⟩
theorem o_gradineref02_Size : FOk Try.prog 76 s_gradineref02_Size :=
 fn_of (Bt := blook []) (l := []) (C := c_gradineref02_Size) (by kernel_rfl) tab_ok trivial (fn := Try.f76) (by kernel_rfl) rfl (by kernel_rfl) (by decide) (by kernel_rfl) (F := fun k x => gradineref02_Size.f k x.1) (m := m_gradineref02_Size) (fun k x => rfl)
  (by
   refine And.intro ?_ ?_
   ·refine ob_loop (sl := q0_gradineref02_Size) (F := g0_gradineref02_Size) (fun x => rfl) fun k ⟨⟨(x0 : List Int), _⟩, ⟨(x3 : Int), _⟩, _⟩ => ?_
    show LeT m_gradineref02_Size (gradineref02_Size.l0 (k + 1) x0 x3) _
    rw [gradineref02_Size.l0]; exact go
   exact trivial)
  (fun k ⟨(a0 : List Int), _⟩ => by show LeT m_gradineref02_Size (gradineref02_Size.f k a0) _; unfold gradineref02_Size.f; exact go)
end
section
attribute [local irreducible] gradineref02_Size.f
def s_gradineref02_Trim : FSpec := ⟨[(.row 22 (.int .u64))], [(.row 22 (.int .u64))], fun k x => (gradineref02_Trim.f k x.1).map fun r => (r, ())⟩
def m_gradineref02_Trim (r : List Int) : TT s_gradineref02_Trim.rs := (r, ())
@[reducible] def q0_gradineref02_Trim : List Slot := [.tmp 0 [.ty (.row 22 (.int .u64))], .tmp 3 [.own .mine 3 22 (.int .u64)], .tmp 6 [.ty (.int .i64)], .tmp 7 [.ty (.int .i64)]]
def g0_gradineref02_Trim (k : Nat) (x : TS q0_gradineref02_Trim) : Option (List Int) := gradineref02_Trim.l0 k x.1.1 x.2.1.1 x.2.2.1.1 x.2.2.2.1.1
def c_gradineref02_Trim : Cuts (TT s_gradineref02_Trim.rs) := ⟨⟨19, 19, []⟩, lookC [(0, ⟨q0_gradineref02_Trim, fun k x => (g0_gradineref02_Trim k x).map m_gradineref02_Trim⟩)], lookC [], lookC []⟩
theorem o_gradineref02_Trim : FOk Try.prog 137 s_gradineref02_Trim :=
 fn_of (Bt := blook []) (l := [(76, .pu s_gradineref02_Size)]) (C := c_gradineref02_Trim) (by kernel_rfl) tab_ok ⟨o_gradineref02_Size, trivial⟩ (fn := Try.f137) (by kernel_rfl) rfl (by kernel_rfl) (by decide) (by kernel_rfl) (F := fun k x => gradineref02_Trim.f k x.1) (m := m_gradineref02_Trim) (fun k x => rfl)
  (by
   refine And.intro ?_ ?_
   ·refine ob_loop (sl := q0_gradineref02_Trim) (F := g0_gradineref02_Trim) (fun x => rfl) fun k ⟨⟨(x0 : List Int), _⟩, ⟨(x3 : List Int), _⟩, ⟨(x6 : Int), _⟩, ⟨(x7 : Int), _⟩, _⟩ => ?_
    show LeT m_gradineref02_Trim (gradineref02_Trim.l0 (k + 1) x0 x3 x6 x7) _
    rw [gradineref02_Trim.l0]; exact go
   exact trivial)
  (fun k ⟨(a0 : List Int), _⟩ => by show LeT m_gradineref02_Trim (gradineref02_Trim.f k a0) _; unfold gradineref02_Trim.f; exact go)
end
section
attribute [local irreducible] gradineref02_Trim.f
def s_gradineref02_Shl : FSpec := ⟨[(.row 22 (.int .u64)), .int .i64], [(.row 22 (.int .u64))], fun k x => (gradineref02_Shl.f k x.1 x.2.1).map fun r => (r, ())⟩
def m_gradineref02_Shl (r : List Int) : TT s_gradineref02_Shl.rs := (r, ())
@[reducible] def q0_gradineref02_Shl : List Slot := [.tmp 0 [.ty (.row 22 (.int .u64))], .tmp 1 [.ty (.int .i64)], .tmp 5 [.own .mine 5 22 (.int .u64)], .tmp 13 [.ty (.int .i64)], .tmp 14 [.ty (.int .i64)]]
def g0_gradineref02_Shl (k : Nat) (x : TS q0_gradineref02_Shl) : Option (List Int) := match x with | ⟨⟨(x0 : List Int), _⟩, ⟨(x1 : Int), _⟩, ⟨(x5 : List Int), _⟩, ⟨(x13 : Int), _⟩, ⟨(x14 : Int), _⟩, _⟩ => if 0 ≤ x1 ∧ x1 ≤ 65536 then gradineref02_Shl.l0 k x0 x1 x5 x13 x14 else none
@[reducible] def q1_gradineref02_Shl : List Slot := [.tmp 0 [.ty (.row 22 (.int .u64))], .tmp 1 [.ty (.int .i64)], .tmp 5 [.own .mine 5 22 (.int .u64)], .tmp 21 [.ty (.int .i64)], .tmp 22 [.ty (.int .i64)]]
def g1_gradineref02_Shl (k : Nat) (x : TS q1_gradineref02_Shl) : Option (List Int) := match x with | ⟨⟨(x0 : List Int), _⟩, ⟨(x1 : Int), _⟩, ⟨(x5 : List Int), _⟩, ⟨(x21 : Int), _⟩, ⟨(x22 : Int), _⟩, _⟩ => if 0 ≤ x1 ∧ x1 ≤ 65536 then gradineref02_Shl.l1 k x0 x1 x5 x21 x22 else none
@[reducible] def q2_gradineref02_Shl : List Slot := [.tmp 5 [.own .mine 5 22 (.int .u64)], .tmp 7 [.ty (.int .u64)], .tmp 8 [.ty (.int .i64)]]
def g2_gradineref02_Shl (k : Nat) (x : TS q2_gradineref02_Shl) : Option (List Int) := match x with | ⟨⟨(x5 : List Int), _⟩, ⟨(x7 : Int), _⟩, ⟨(x8 : Int), _⟩, _⟩ => if 0 ≤ x7 ∧ x7 < 64 then gradineref02_Shl.l2 k x5 x7 x8 else none
def c_gradineref02_Shl : Cuts (TT s_gradineref02_Shl.rs) := ⟨⟨78, 78, []⟩, lookC [(0, ⟨q0_gradineref02_Shl, fun k x => (g0_gradineref02_Shl k x).map m_gradineref02_Shl⟩), (1, ⟨q1_gradineref02_Shl, fun k x => (g1_gradineref02_Shl k x).map m_gradineref02_Shl⟩), (2, ⟨q2_gradineref02_Shl, fun k x => (g2_gradineref02_Shl k x).map m_gradineref02_Shl⟩)], lookC [], lookC []⟩
theorem o_gradineref02_Shl : FOk Try.prog 73 s_gradineref02_Shl :=
 fn_of (Bt := blook [(19, [0, 0, 0, 0, 12, 28, 0, 124, 0, 0, 512, 1792, 3840, 0, 8192, 32512, 65532, 131071, 262143])]) (l := [(137, .pu s_gradineref02_Trim)]) (C := c_gradineref02_Shl) (by kernel_rfl) tab_ok ⟨o_gradineref02_Trim, trivial⟩ (fn := Try.f73) (by kernel_rfl) rfl (by kernel_rfl) (by decide) (by kernel_rfl) (F := fun k x => gradineref02_Shl.f k x.1 x.2.1) (m := m_gradineref02_Shl) (fun k x => rfl)
  (by
   refine And.intro ?_ ?_
   ·refine ob_loop (sl := q0_gradineref02_Shl) (F := g0_gradineref02_Shl) (fun ⟨⟨(x0 : List Int), _⟩, ⟨(x1 : Int), _⟩, ⟨(x5 : List Int), _⟩, ⟨(x13 : Int), _⟩, ⟨(x14 : Int), _⟩, _⟩ => by show (if 0 ≤ x1 ∧ x1 ≤ 65536 then gradineref02_Shl.l0 0 x0 x1 x5 x13 x14 else none) = none; split <;> rfl) fun k ⟨⟨(x0 : List Int), _⟩, ⟨(x1 : Int), _⟩, ⟨(x5 : List Int), _⟩, ⟨(x13 : Int), _⟩, ⟨(x14 : Int), _⟩, _⟩ => ?_
    show LeT m_gradineref02_Shl (if 0 ≤ x1 ∧ x1 ≤ 65536 then gradineref02_Shl.l0 (k + 1) x0 x1 x5 x13 x14 else none) _
    rw [gradineref02_Shl.l0]; exact go
   refine And.intro ?_ ?_
   ·refine ob_loop (sl := q1_gradineref02_Shl) (F := g1_gradineref02_Shl) (fun ⟨⟨(x0 : List Int), _⟩, ⟨(x1 : Int), _⟩, ⟨(x5 : List Int), _⟩, ⟨(x21 : Int), _⟩, ⟨(x22 : Int), _⟩, _⟩ => by show (if 0 ≤ x1 ∧ x1 ≤ 65536 then gradineref02_Shl.l1 0 x0 x1 x5 x21 x22 else none) = none; split <;> rfl) fun k ⟨⟨(x0 : List Int), _⟩, ⟨(x1 : Int), _⟩, ⟨(x5 : List Int), _⟩, ⟨(x21 : Int), _⟩, ⟨(x22 : Int), _⟩, _⟩ => ?_
    show LeT m_gradineref02_Shl (if 0 ≤ x1 ∧ x1 ≤ 65536 then gradineref02_Shl.l1 (k + 1) x0 x1 x5 x21 x22 else none) _
    rw [gradineref02_Shl.l1]; exact go
   refine And.intro ?_ ?_
   ·refine ob_loop (sl := q2_gradineref02_Shl) (F := g2_gradineref02_Shl) (fun ⟨⟨(x5 : List Int), _⟩, ⟨(x7 : Int), _⟩, ⟨(x8 : Int), _⟩, _⟩ => by show (if 0 ≤ x7 ∧ x7 < 64 then gradineref02_Shl.l2 0 x5 x7 x8 else none) = none; split <;> rfl) fun k ⟨⟨(x5 : List Int), _⟩, ⟨(x7 : Int), _⟩, ⟨(x8 : Int), _⟩, _⟩ => ?_
    show LeT m_gradineref02_Shl (if 0 ≤ x7 ∧ x7 < 64 then gradineref02_Shl.l2 (k + 1) x5 x7 x8 else none) _
    rw [gradineref02_Shl.l2]; exact go
   exact trivial)
  (fun k ⟨(a0 : List Int), (a1 : Int), _⟩ => by show LeT m_gradineref02_Shl (gradineref02_Shl.f k a0 a1) _; unfold gradineref02_Shl.f; exact go)
end
section
def s_gradineref02_at : FSpec := ⟨[(.row 22 (.int .u64)), .int .i64], [.int .u64], fun _ x => (gradineref02_at.f x.1 x.2.1).map fun r => (r, ())⟩
def m_gradineref02_at (r : Int) : TT s_gradineref02_at.rs := (r, ())
theorem o_gradineref02_at : FOk Try.prog 143 s_gradineref02_at :=
 fn_of (Bt := blook []) (l := []) (C := noCuts) (by kernel_rfl) tab_ok trivial (fn := Try.f143) (by kernel_rfl) rfl (by kernel_rfl) (by decide) (by kernel_rfl) (F := fun k x => gradineref02_at.f x.1 x.2.1) (m := m_gradineref02_at) (fun k x => rfl)
  (by exact trivial)
  (fun k ⟨(a0 : List Int), (a1 : Int), _⟩ => by show LeT m_gradineref02_at (gradineref02_at.f a0 a1) _; unfold gradineref02_at.f; exact go)
end
section
attribute [local irreducible] gradineref02_at.f
def s_gradineref02_Cmp : FSpec := ⟨[(.row 22 (.int .u64)), (.row 22 (.int .u64))], [.int .i64], fun k x => (gradineref02_Cmp.f k x.1 x.2.1).map fun r => (r, ())⟩
def m_gradineref02_Cmp (r : Int) : TT s_gradineref02_Cmp.rs := (r, ())
@[reducible] def q0_gradineref02_Cmp : List Slot := [.tmp 0 [.ty (.row 22 (.int .u64))], .tmp 1 [.ty (.row 22 (.int .u64))], .tmp 6 [.ty (.int .i64)]]
def g0_gradineref02_Cmp (k : Nat) (x : TS q0_gradineref02_Cmp) : Option (Int) := gradineref02_Cmp.l0 k x.1.1 x.2.1.1 x.2.2.1.1
def c_gradineref02_Cmp : Cuts (TT s_gradineref02_Cmp.rs) := ⟨⟨32, 32, []⟩, lookC [(0, ⟨q0_gradineref02_Cmp, fun k x => (g0_gradineref02_Cmp k x).map m_gradineref02_Cmp⟩)], lookC [], lookC []⟩
theorem o_gradineref02_Cmp : FOk Try.prog 81 s_gradineref02_Cmp :=
 fn_of (Bt := blook []) (l := [(143, .pu s_gradineref02_at)]) (C := c_gradineref02_Cmp) (by kernel_rfl) tab_ok ⟨o_gradineref02_at, trivial⟩ (fn := Try.f81) (by kernel_rfl) rfl (by kernel_rfl) (by decide) (by kernel_rfl) (F := fun k x => gradineref02_Cmp.f k x.1 x.2.1) (m := m_gradineref02_Cmp) (fun k x => rfl)
  (by
   refine And.intro ?_ ?_
   ·refine ob_loop (sl := q0_gradineref02_Cmp) (F := g0_gradineref02_Cmp) (fun x => rfl) fun k ⟨⟨(x0 : List Int), _⟩, ⟨(x1 : List Int), _⟩, ⟨(x6 : Int), _⟩, _⟩ => ?_
    show LeT m_gradineref02_Cmp (gradineref02_Cmp.l0 (k + 1) x0 x1 x6) _
    rw [gradineref02_Cmp.l0]; exact go
   exact trivial)
  (fun k ⟨(a0 : List Int), (a1 : List Int), _⟩ => by show LeT m_gradineref02_Cmp (gradineref02_Cmp.f k a0 a1) _; unfold gradineref02_Cmp.f; exact go)
end
section
attribute [local irreducible] gradineref02_Trim.f
def s_gradineref02_Halves : FSpec := ⟨[(.row 22 (.int .u64))], [(.row 22 (.int .u64))], fun k x => (gradineref02_Halves.f k x.1).map fun r => (r, ())⟩
def m_gradineref02_Halves (r : List Int) : TT s_gradineref02_Halves.rs := (r, ())
@[reducible] def q0_gradineref02_Halves : List Slot := [.tmp 0 [.ty (.row 22 (.int .u64))], .tmp 3 [.own .mine 3 22 (.int .u64)], .tmp 6 [.ty (.int .i64)], .tmp 7 [.ty (.int .i64)]]
def g0_gradineref02_Halves (k : Nat) (x : TS q0_gradineref02_Halves) : Option (List Int) := gradineref02_Halves.l0 k x.1.1 x.2.1.1 x.2.2.1.1 x.2.2.2.1.1
def c_gradineref02_Halves : Cuts (TT s_gradineref02_Halves.rs) := ⟨⟨29, 29, []⟩, lookC [(0, ⟨q0_gradineref02_Halves, fun k x => (g0_gradineref02_Halves k x).map m_gradineref02_Halves⟩)], lookC [], lookC []⟩
theorem o_gradineref02_Halves : FOk Try.prog 141 s_gradineref02_Halves :=
 fn_of (Bt := blook []) (l := [(137, .pu s_gradineref02_Trim)]) (C := c_gradineref02_Halves) (by kernel_rfl) tab_ok ⟨o_gradineref02_Trim, trivial⟩ (fn := Try.f141) (by kernel_rfl) rfl (by kernel_rfl) (by decide) (by kernel_rfl) (F := fun k x => gradineref02_Halves.f k x.1) (m := m_gradineref02_Halves) (fun k x => rfl)
  (by
   refine And.intro ?_ ?_
   ·refine ob_loop (sl := q0_gradineref02_Halves) (F := g0_gradineref02_Halves) (fun x => rfl) fun k ⟨⟨(x0 : List Int), _⟩, ⟨(x3 : List Int), _⟩, ⟨(x6 : Int), _⟩, ⟨(x7 : Int), _⟩, _⟩ => ?_
    show LeT m_gradineref02_Halves (gradineref02_Halves.l0 (k + 1) x0 x3 x6 x7) _
    rw [gradineref02_Halves.l0]; exact go
   exact trivial)
  (fun k ⟨(a0 : List Int), _⟩ => by show LeT m_gradineref02_Halves (gradineref02_Halves.f k a0) _; unfold gradineref02_Halves.f; exact go)
end
section
attribute [local irreducible] gradineref02_Trim.f
def s_gradineref02_Whole : FSpec := ⟨[(.row 22 (.int .u64))], [(.row 22 (.int .u64))], fun k x => (gradineref02_Whole.f k x.1).map fun r => (r, ())⟩
def m_gradineref02_Whole (r : List Int) : TT s_gradineref02_Whole.rs := (r, ())
@[reducible] def q0_gradineref02_Whole : List Slot := [.tmp 0 [.ty (.row 22 (.int .u64))], .tmp 3 [.own .mine 3 22 (.int .u64)], .tmp 4 [.ty (.int .i64)]]
def g0_gradineref02_Whole (k : Nat) (x : TS q0_gradineref02_Whole) : Option (List Int) := gradineref02_Whole.l0 k x.1.1 x.2.1.1 x.2.2.1.1
def c_gradineref02_Whole : Cuts (TT s_gradineref02_Whole.rs) := ⟨⟨35, 35, []⟩, lookC [(0, ⟨q0_gradineref02_Whole, fun k x => (g0_gradineref02_Whole k x).map m_gradineref02_Whole⟩)], lookC [], lookC []⟩
theorem o_gradineref02_Whole : FOk Try.prog 142 s_gradineref02_Whole :=
 fn_of (Bt := blook []) (l := [(137, .pu s_gradineref02_Trim)]) (C := c_gradineref02_Whole) (by kernel_rfl) tab_ok ⟨o_gradineref02_Trim, trivial⟩ (fn := Try.f142) (by kernel_rfl) rfl (by kernel_rfl) (by decide) (by kernel_rfl) (F := fun k x => gradineref02_Whole.f k x.1) (m := m_gradineref02_Whole) (fun k x => rfl)
  (by
   refine And.intro ?_ ?_
   ·refine ob_loop (sl := q0_gradineref02_Whole) (F := g0_gradineref02_Whole) (fun x => rfl) fun k ⟨⟨(x0 : List Int), _⟩, ⟨(x3 : List Int), _⟩, ⟨(x4 : Int), _⟩, _⟩ => ?_
    show LeT m_gradineref02_Whole (gradineref02_Whole.l0 (k + 1) x0 x3 x4) _
    rw [gradineref02_Whole.l0]; exact go
   exact trivial)
  (fun k ⟨(a0 : List Int), _⟩ => by show LeT m_gradineref02_Whole (gradineref02_Whole.f k a0) _; unfold gradineref02_Whole.f; exact go)
end
section
attribute [local irreducible] gradineref02_Halves.f gradineref02_Whole.f gradineref02_at.f
def s_gradineref02_Sub : FSpec := ⟨[(.row 22 (.int .u64)), (.row 22 (.int .u64))], [(.row 22 (.int .u64))], fun k x => (gradineref02_Sub.f k x.1 x.2.1).map fun r => (r, ())⟩
def m_gradineref02_Sub (r : List Int) : TT s_gradineref02_Sub.rs := (r, ())
@[reducible] def q0_gradineref02_Sub : List Slot := [.tmp 5 [.ty (.row 22 (.int .u64))], .tmp 6 [.ty (.row 22 (.int .u64))], .tmp 7 [.own .mine 7 22 (.int .u64)], .tmp 8 [.ty (.int .u64)], .tmp 16 [.ty (.int .i64)], .tmp 17 [.ty (.int .i64)]]
def g0_gradineref02_Sub (k : Nat) (x : TS q0_gradineref02_Sub) : Option (List Int) := gradineref02_Sub.l0 k x.1.1 x.2.1.1 x.2.2.1.1 x.2.2.2.1.1 x.2.2.2.2.1.1 x.2.2.2.2.2.1.1
def c_gradineref02_Sub : Cuts (TT s_gradineref02_Sub.rs) := ⟨⟨42, 42, []⟩, lookC [(0, ⟨q0_gradineref02_Sub, fun k x => (g0_gradineref02_Sub k x).map m_gradineref02_Sub⟩)], lookC [], lookC []⟩
theorem o_gradineref02_Sub : FOk Try.prog 82 s_gradineref02_Sub :=
 fn_of (Bt := blook [(7, [0, 0, 3, 7, 15, 0, 0, 96, 255, 0, 1023, 2047])]) (l := [(141, .pu s_gradineref02_Halves), (142, .pu s_gradineref02_Whole), (143, .pu s_gradineref02_at)]) (C := c_gradineref02_Sub) (by kernel_rfl) tab_ok ⟨o_gradineref02_Halves, o_gradineref02_Whole, o_gradineref02_at, trivial⟩ (fn := Try.f82) (by kernel_rfl) rfl (by kernel_rfl) (by decide) (by kernel_rfl) (F := fun k x => gradineref02_Sub.f k x.1 x.2.1) (m := m_gradineref02_Sub) (fun k x => rfl)
  (by
   refine And.intro ?_ ?_
   ·refine ob_loop (sl := q0_gradineref02_Sub) (F := g0_gradineref02_Sub) (fun x => rfl) fun k ⟨⟨(x5 : List Int), _⟩, ⟨(x6 : List Int), _⟩, ⟨(x7 : List Int), _⟩, ⟨(x8 : Int), _⟩, ⟨(x16 : Int), _⟩, ⟨(x17 : Int), _⟩, _⟩ => ?_
    show LeT m_gradineref02_Sub (gradineref02_Sub.l0 (k + 1) x5 x6 x7 x8 x16 x17) _
    rw [gradineref02_Sub.l0]; exact go
   exact trivial)
  (fun k ⟨(a0 : List Int), (a1 : List Int), _⟩ => by show LeT m_gradineref02_Sub (gradineref02_Sub.f k a0 a1) _; unfold gradineref02_Sub.f; exact go)
end
section
attribute [local irreducible] gradineref02_Trim.f
def s_gradineref02_Shr : FSpec := ⟨[(.row 22 (.int .u64)), .int .i64], [(.row 22 (.int .u64))], fun k x => (gradineref02_Shr.f k x.1 x.2.1).map fun r => (r, ())⟩
def m_gradineref02_Shr (r : List Int) : TT s_gradineref02_Shr.rs := (r, ())
@[reducible] def q0_gradineref02_Shr : List Slot := [.tmp 0 [.ty (.row 22 (.int .u64))], .tmp 1 [.ty (.int .i64)], .tmp 5 [.own .mine 5 22 (.int .u64)], .tmp 6 [.ty (.int .i64)]]
def g0_gradineref02_Shr (k : Nat) (x : TS q0_gradineref02_Shr) : Option (List Int) := match x with | ⟨⟨(x0 : List Int), _⟩, ⟨(x1 : Int), _⟩, ⟨(x5 : List Int), _⟩, ⟨(x6 : Int), _⟩, _⟩ => if 0 ≤ x1 then gradineref02_Shr.l0 k x0 x1 x5 x6 else none
@[reducible] def q1_gradineref02_Shr : List Slot := [.tmp 5 [.own .mine 5 22 (.int .u64)], .tmp 7 [.ty (.int .u64)], .tmp 35 [.ty (.int .i64)], .tmp 36 [.ty (.int .i64)]]
def g1_gradineref02_Shr (k : Nat) (x : TS q1_gradineref02_Shr) : Option (List Int) := match x with | ⟨⟨(x5 : List Int), _⟩, ⟨(x7 : Int), _⟩, ⟨(x35 : Int), _⟩, ⟨(x36 : Int), _⟩, _⟩ => if 0 ≤ x7 ∧ x7 < 64 then gradineref02_Shr.l1 k x5 x7 x35 x36 else none
def c_gradineref02_Shr : Cuts (TT s_gradineref02_Shr.rs) := ⟨⟨72, 72, []⟩, lookC [(0, ⟨q0_gradineref02_Shr, fun k x => (g0_gradineref02_Shr k x).map m_gradineref02_Shr⟩), (1, ⟨q1_gradineref02_Shr, fun k x => (g1_gradineref02_Shr k x).map m_gradineref02_Shr⟩)], lookC [], lookC []⟩
theorem o_gradineref02_Shr : FOk Try.prog 115 s_gradineref02_Shr :=
 fn_of (Bt := blook [(15, [0, 0, 0, 0, 12, 28, 0, 0, 128, 448, 960, 0, 2048, 8128, 16380, 32767, 65535])]) (l := [(137, .pu s_gradineref02_Trim)]) (C := c_gradineref02_Shr) (by kernel_rfl) tab_ok ⟨o_gradineref02_Trim, trivial⟩ (fn := Try.f115) (by kernel_rfl) rfl (by kernel_rfl) (by decide) (by kernel_rfl) (F := fun k x => gradineref02_Shr.f k x.1 x.2.1) (m := m_gradineref02_Shr) (fun k x => rfl)
  (by
   refine And.intro ?_ ?_
   ·refine ob_loop (sl := q0_gradineref02_Shr) (F := g0_gradineref02_Shr) (fun ⟨⟨(x0 : List Int), _⟩, ⟨(x1 : Int), _⟩, ⟨(x5 : List Int), _⟩, ⟨(x6 : Int), _⟩, _⟩ => by show (if 0 ≤ x1 then gradineref02_Shr.l0 0 x0 x1 x5 x6 else none) = none; split <;> rfl) fun k ⟨⟨(x0 : List Int), _⟩, ⟨(x1 : Int), _⟩, ⟨(x5 : List Int), _⟩, ⟨(x6 : Int), _⟩, _⟩ => ?_
    show LeT m_gradineref02_Shr (if 0 ≤ x1 then gradineref02_Shr.l0 (k + 1) x0 x1 x5 x6 else none) _
    rw [gradineref02_Shr.l0]; exact go
   refine And.intro ?_ ?_
   ·refine ob_loop (sl := q1_gradineref02_Shr) (F := g1_gradineref02_Shr) (fun ⟨⟨(x5 : List Int), _⟩, ⟨(x7 : Int), _⟩, ⟨(x35 : Int), _⟩, ⟨(x36 : Int), _⟩, _⟩ => by show (if 0 ≤ x7 ∧ x7 < 64 then gradineref02_Shr.l1 0 x5 x7 x35 x36 else none) = none; split <;> rfl) fun k ⟨⟨(x5 : List Int), _⟩, ⟨(x7 : Int), _⟩, ⟨(x35 : Int), _⟩, ⟨(x36 : Int), _⟩, _⟩ => ?_
    show LeT m_gradineref02_Shr (if 0 ≤ x7 ∧ x7 < 64 then gradineref02_Shr.l1 (k + 1) x5 x7 x35 x36 else none) _
    rw [gradineref02_Shr.l1]; exact go
   exact trivial)
  (fun k ⟨(a0 : List Int), (a1 : Int), _⟩ => by show LeT m_gradineref02_Shr (gradineref02_Shr.f k a0 a1) _; unfold gradineref02_Shr.f; exact go)
end
section
def s_gradineref02_Bit : FSpec := ⟨[(.row 22 (.int .u64)), .int .i64], [.bool], fun _ x => (gradineref02_Bit.f x.1 x.2.1).map fun r => (r, ())⟩
def m_gradineref02_Bit (r : Bool) : TT s_gradineref02_Bit.rs := (r, ())
theorem o_gradineref02_Bit : FOk Try.prog 162 s_gradineref02_Bit :=
 fn_of (Bt := blook []) (l := []) (C := noCuts) (by kernel_rfl) tab_ok trivial (fn := Try.f162) (by kernel_rfl) rfl (by kernel_rfl) (by decide) (by kernel_rfl) (F := fun k x => gradineref02_Bit.f x.1 x.2.1) (m := m_gradineref02_Bit) (fun k x => rfl)
  (by exact trivial)
  (fun k ⟨(a0 : List Int), (a1 : Int), _⟩ => by show LeT m_gradineref02_Bit (gradineref02_Bit.f a0 a1) _; unfold gradineref02_Bit.f; exact go)
end
section
attribute [local irreducible] gradineref02_Size.f gradineref02_Bit.f
def s_gradineref02_Even : FSpec := ⟨[(.row 22 (.int .u64))], [.int .i64], fun k x => (gradineref02_Even.f k x.1).map fun r => (r, ())⟩
def m_gradineref02_Even (r : Int) : TT s_gradineref02_Even.rs := (r, ())
@[reducible] def q0_gradineref02_Even : List Slot := [.tmp 0 [.ty (.row 22 (.int .u64))], .tmp 3 [.ty (.int .i64)]]
def g0_gradineref02_Even (k : Nat) (x : TS q0_gradineref02_Even) : Option (Int) := gradineref02_Even.l0 k x.1.1 x.2.1.1
def c_gradineref02_Even : Cuts (TT s_gradineref02_Even.rs) := ⟨⟨14, 14, []⟩, lookC [(0, ⟨q0_gradineref02_Even, fun k x => (g0_gradineref02_Even k x).map m_gradineref02_Even⟩)], lookC [], lookC []⟩
theorem o_gradineref02_Even : FOk Try.prog 139 s_gradineref02_Even :=
 fn_of (Bt := blook []) (l := [(76, .pu s_gradineref02_Size), (162, .pu s_gradineref02_Bit)]) (C := c_gradineref02_Even) (by kernel_rfl) tab_ok ⟨o_gradineref02_Size, o_gradineref02_Bit, trivial⟩ (fn := Try.f139) (by kernel_rfl) rfl (by kernel_rfl) (by decide) (by kernel_rfl) (F := fun k x => gradineref02_Even.f k x.1) (m := m_gradineref02_Even) (fun k x => rfl)
  (by
   refine And.intro ?_ ?_
   ·refine ob_loop (sl := q0_gradineref02_Even) (F := g0_gradineref02_Even) (fun x => rfl) fun k ⟨⟨(x0 : List Int), _⟩, ⟨(x3 : Int), _⟩, _⟩ => ?_
    show LeT m_gradineref02_Even (gradineref02_Even.l0 (k + 1) x0 x3) _
    rw [gradineref02_Even.l0]; exact go
   exact trivial)
  (fun k ⟨(a0 : List Int), _⟩ => by show LeT m_gradineref02_Even (gradineref02_Even.f k a0) _; unfold gradineref02_Even.f; exact go)
end
section
attribute [local irreducible] gradineref02_Shl.f gradineref02_Size.f gradineref02_Cmp.f gradineref02_Sub.f gradineref02_Shr.f gradineref02_Trim.f gradineref02_Even.f
def s_gradineref05_Gcd : FSpec := ⟨[(.row 22 (.int .u64)), (.row 22 (.int .u64))], [(.row 22 (.int .u64))], fun k x => (gradineref05_Gcd.f k x.1 x.2.1).map fun r => (r, ())⟩
def m_gradineref05_Gcd (r : List Int) : TT s_gradineref05_Gcd.rs := (r, ())
@[reducible] def q0_gradineref05_Gcd : List Slot := [.tmp 0 [.ty (.row 22 (.int .u64))], .tmp 1 [.ty (.row 22 (.int .u64))], .tmp 28 [.ty .bool]]
def g0_gradineref05_Gcd (k : Nat) (x : TS q0_gradineref05_Gcd) : Option (List Int) := gradineref05_Gcd.j0 k x.1.1 x.2.1.1 x.2.2.1.1
@[reducible] def q1_gradineref05_Gcd : List Slot := [.tmp 5 [.ty (.int .u64)], .tmp 6 [.ty (.int .u64)]]
def g1_gradineref05_Gcd (k : Nat) (x : TS q1_gradineref05_Gcd) : Option (List Int) := gradineref05_Gcd.l0 k x.1.1 x.2.1.1
@[reducible] def q2_gradineref05_Gcd : List Slot := [.tmp 7 [.ty (.int .i64)], .tmp 8 [.ty (.row 22 (.int .u64))], .tmp 9 [.ty (.row 22 (.int .u64))]]
def g2_gradineref05_Gcd (k : Nat) (x : TS q2_gradineref05_Gcd) : Option (List Int) := gradineref05_Gcd.l1 k x.1.1 x.2.1.1 x.2.2.1.1
def c_gradineref05_Gcd : Cuts (TT s_gradineref05_Gcd.rs) := ⟨⟨75, 75, []⟩, lookC [(0, ⟨q1_gradineref05_Gcd, fun k x => (g1_gradineref05_Gcd k x).map m_gradineref05_Gcd⟩), (1, ⟨q2_gradineref05_Gcd, fun k x => (g2_gradineref05_Gcd k x).map m_gradineref05_Gcd⟩)], lookC [], lookC [(5, ⟨q0_gradineref05_Gcd, fun k x => (g0_gradineref05_Gcd k x).map m_gradineref05_Gcd⟩)]⟩
theorem o_gradineref05_Gcd : FOk Try.prog 77 s_gradineref05_Gcd :=
 fn_of (Bt := blook [(6, [0, 1, 3, 0, 8, 24, 7, 127]), (8, [0, 0, 0, 6, 3, 31])]) (l := [(73, .pu s_gradineref02_Shl), (76, .pu s_gradineref02_Size), (81, .pu s_gradineref02_Cmp), (82, .pu s_gradineref02_Sub), (115, .pu s_gradineref02_Shr), (137, .pu s_gradineref02_Trim), (139, .pu s_gradineref02_Even)]) (C := c_gradineref05_Gcd) (by kernel_rfl) tab_ok ⟨o_gradineref02_Shl, o_gradineref02_Size, o_gradineref02_Cmp, o_gradineref02_Sub, o_gradineref02_Shr, o_gradineref02_Trim, o_gradineref02_Even, trivial⟩ (fn := Try.f77) (by kernel_rfl) rfl (by kernel_rfl) (by decide) (by kernel_rfl) (F := fun k x => gradineref05_Gcd.f k x.1 x.2.1) (m := m_gradineref05_Gcd) (fun k x => rfl)
  (by
   refine And.intro ?_ ?_
   ·refine ob_join1 (sl := q0_gradineref05_Gcd) (F := g0_gradineref05_Gcd) (fun x => rfl) fun k ⟨⟨(x0 : List Int), _⟩, ⟨(x1 : List Int), _⟩, ⟨(x28 : Bool), _⟩, _⟩ => ?_
    show LeT m_gradineref05_Gcd (gradineref05_Gcd.j0 (k + 1) x0 x1 x28) _
    rw [gradineref05_Gcd.j0]; exact go
   refine And.intro ?_ ?_
   ·refine ob_loop (sl := q1_gradineref05_Gcd) (F := g1_gradineref05_Gcd) (fun x => rfl) fun k ⟨⟨(x5 : Int), _⟩, ⟨(x6 : Int), _⟩, _⟩ => ?_
    show LeT m_gradineref05_Gcd (gradineref05_Gcd.l0 (k + 1) x5 x6) _
    rw [gradineref05_Gcd.l0]; exact go
   refine And.intro ?_ ?_
   ·refine ob_loop (sl := q2_gradineref05_Gcd) (F := g2_gradineref05_Gcd) (fun x => rfl) fun k ⟨⟨(x7 : Int), _⟩, ⟨(x8 : List Int), _⟩, ⟨(x9 : List Int), _⟩, _⟩ => ?_
    show LeT m_gradineref05_Gcd (gradineref05_Gcd.l1 (k + 1) x7 x8 x9) _
    rw [gradineref05_Gcd.l1]; exact go
   exact trivial)
  (fun k ⟨(a0 : List Int), (a1 : List Int), _⟩ => by show LeT m_gradineref05_Gcd (gradineref05_Gcd.f k a0 a1) _; unfold gradineref05_Gcd.f; exact go)
end
section
attribute [local irreducible] gradineref02_Size.f
def s_gradineref02_Right : FSpec := ⟨[(.row 22 (.int .u64))], [.bool], fun k x => (gradineref02_Right.f k x.1).map fun r => (r, ())⟩
def m_gradineref02_Right (r : Bool) : TT s_gradineref02_Right.rs := (r, ())
theorem o_gradineref02_Right : FOk Try.prog 125 s_gradineref02_Right :=
 fn_of (Bt := blook []) (l := [(76, .pu s_gradineref02_Size)]) (C := noCuts) (by kernel_rfl) tab_ok ⟨o_gradineref02_Size, trivial⟩ (fn := Try.f125) (by kernel_rfl) rfl (by kernel_rfl) (by decide) (by kernel_rfl) (F := fun k x => gradineref02_Right.f k x.1) (m := m_gradineref02_Right) (fun k x => rfl)
  (by exact trivial)
  (fun k ⟨(a0 : List Int), _⟩ => by show LeT m_gradineref02_Right (gradineref02_Right.f k a0) _; unfold gradineref02_Right.f; exact go)
end
section
attribute [local irreducible] gradineref05_Gcd.f gradineref02_Cmp.f gradineref02_Right.f
def s_gradineref07_Right : FSpec := ⟨[(.cons .bool (.cons (.row 22 (.int .u64)) (.row 22 (.int .u64))))], [.bool], fun k x => (gradineref07_Right.f k x.1.1 x.1.2.1 x.1.2.2).map fun r => (r, ())⟩
def m_gradineref07_Right (r : Bool) : TT s_gradineref07_Right.rs := (r, ())
theorem o_gradineref07_Right : FOk Try.prog 64 s_gradineref07_Right :=
 fn_of (Bt := blook []) (l := [(77, .pu s_gradineref05_Gcd), (81, .pu s_gradineref02_Cmp), (125, .pu s_gradineref02_Right)]) (C := noCuts) (by kernel_rfl) tab_ok ⟨o_gradineref05_Gcd, o_gradineref02_Cmp, o_gradineref02_Right, trivial⟩ (fn := Try.f64) (by kernel_rfl) rfl (by kernel_rfl) (by decide) (by kernel_rfl) (F := fun k x => gradineref07_Right.f k x.1.1 x.1.2.1 x.1.2.2) (m := m_gradineref07_Right) (fun k x => rfl)
  (by exact trivial)
  (fun k ⟨(a0 : Bool × List Int × List Int), _⟩ => by show LeT m_gradineref07_Right (gradineref07_Right.f k a0.1 a0.2.1 a0.2.2) _; unfold gradineref07_Right.f; unfold gradineref07_Right.j0; exact goq)
end
section
attribute [local irreducible] gradineplain_Long.f gradineref07_Right.f
def s_gradinelaw10_right : FSpec := ⟨[(.cons .bool (.cons (.row 22 (.int .u64)) (.row 22 (.int .u64))))], [.bool], fun k x => (gradinelaw10_right.f k x.1.1 x.1.2.1 x.1.2.2).map fun r => (r, ())⟩
def m_gradinelaw10_right (r : Bool) : TT s_gradinelaw10_right.rs := (r, ())
theorem o_gradinelaw10_right : FOk Try.prog 16 s_gradinelaw10_right :=
 fn_of (Bt := blook []) (l := [(63, .pu s_gradineplain_Long), (64, .pu s_gradineref07_Right)]) (C := noCuts) (by kernel_rfl) tab_ok ⟨o_gradineplain_Long, o_gradineref07_Right, trivial⟩ (fn := Try.f16) (by kernel_rfl) rfl (by kernel_rfl) (by decide) (by kernel_rfl) (F := fun k x => gradinelaw10_right.f k x.1.1 x.1.2.1 x.1.2.2) (m := m_gradinelaw10_right) (fun k x => rfl)
  (by exact trivial)
  (fun k ⟨(a0 : Bool × List Int × List Int), _⟩ => by show LeT m_gradinelaw10_right (gradinelaw10_right.f k a0.1 a0.2.1 a0.2.2) _; unfold gradinelaw10_right.f; exact go)
end
section
attribute [local irreducible] fround_FromInt.f fround_Word.f
def s_gradinelaw10_same : FSpec := ⟨[], [.bool], fun k _ => (gradinelaw10_same.f k).map fun r => (r, ())⟩
def m_gradinelaw10_same (r : Bool) : TT s_gradinelaw10_same.rs := (r, ())
theorem o_gradinelaw10_same : FOk Try.prog 17 s_gradinelaw10_same :=
 fn_of (Bt := blook []) (l := [(42, .pu s_fround_FromInt), (65, .pu s_fround_Word)]) (C := noCuts) (by kernel_rfl) tab_ok ⟨o_fround_FromInt, o_fround_Word, trivial⟩ (fn := Try.f17) (by kernel_rfl) rfl (by kernel_rfl) (by decide) (by kernel_rfl) (F := fun k x => gradinelaw10_same.f k) (m := m_gradinelaw10_same) (fun k x => rfl)
  (by exact trivial)
  (fun k x => by show LeT m_gradinelaw10_same (gradinelaw10_same.f k) _; unfold gradinelaw10_same.f; exact go)
end
section
def s_gradineref07_Sign : FSpec := ⟨[(.cons .bool (.cons (.row 22 (.int .u64)) (.row 22 (.int .u64))))], [.int .i64], fun _ x => (gradineref07_Sign.f x.1.1 x.1.2.1 x.1.2.2).map fun r => (r, ())⟩
def m_gradineref07_Sign (r : Int) : TT s_gradineref07_Sign.rs := (r, ())
theorem o_gradineref07_Sign : FOk Try.prog 74 s_gradineref07_Sign :=
 fn_of (Bt := blook []) (l := []) (C := noCuts) (by kernel_rfl) tab_ok trivial (fn := Try.f74) (by kernel_rfl) rfl (by kernel_rfl) (by decide) (by kernel_rfl) (F := fun k x => gradineref07_Sign.f x.1.1 x.1.2.1 x.1.2.2) (m := m_gradineref07_Sign) (fun k x => rfl)
  (by exact trivial)
  (fun k ⟨(a0 : Bool × List Int × List Int), _⟩ => by show LeT m_gradineref07_Sign (gradineref07_Sign.f a0.1 a0.2.1 a0.2.2) _; unfold gradineref07_Sign.f; exact go)
end
section
def s_gradineref01_Len : FSpec := ⟨[.int .u64], [.int .i64], fun k x => (gradineref01_Len.f k x.1).map fun r => (r, ())⟩
def m_gradineref01_Len (r : Int) : TT s_gradineref01_Len.rs := (r, ())
@[reducible] def q0_gradineref01_Len : List Slot := [.tmp 0 [.ty (.int .u64)], .tmp 3 [.ty (.int .i64)]]
def g0_gradineref01_Len (k : Nat) (x : TS q0_gradineref01_Len) : Option (Int) := gradineref01_Len.l0 k x.1.1 x.2.1.1
def c_gradineref01_Len : Cuts (TT s_gradineref01_Len.rs) := ⟨⟨11, 11, []⟩, lookC [(0, ⟨q0_gradineref01_Len, fun k x => (g0_gradineref01_Len k x).map m_gradineref01_Len⟩)], lookC [], lookC []⟩
theorem o_gradineref01_Len : FOk Try.prog 164 s_gradineref01_Len :=
 fn_of (Bt := blook []) (l := []) (C := c_gradineref01_Len) (by kernel_rfl) tab_ok trivial (fn := Try.f164) (by kernel_rfl) rfl (by kernel_rfl) (by decide) (by kernel_rfl) (F := fun k x => gradineref01_Len.f k x.1) (m := m_gradineref01_Len) (fun k x => rfl)
  (by
   refine And.intro ?_ ?_
   ·refine ob_loop (sl := q0_gradineref01_Len) (F := g0_gradineref01_Len) (fun x => rfl) fun k ⟨⟨(x0 : Int), _⟩, ⟨(x3 : Int), _⟩, _⟩ => ?_
    show LeT m_gradineref01_Len (gradineref01_Len.l0 (k + 1) x0 x3) _
    rw [gradineref01_Len.l0]; exact go
   exact trivial)
  (fun k ⟨(a0 : Int), _⟩ => by show LeT m_gradineref01_Len (gradineref01_Len.f k a0) _; unfold gradineref01_Len.f; exact go)
end
section
attribute [local irreducible] gradineref02_Size.f gradineref01_Len.f
def s_gradineref02_Bits : FSpec := ⟨[(.row 22 (.int .u64))], [.int .i64], fun k x => (gradineref02_Bits.f k x.1).map fun r => (r, ())⟩
def m_gradineref02_Bits (r : Int) : TT s_gradineref02_Bits.rs := (r, ())
theorem o_gradineref02_Bits : FOk Try.prog 116 s_gradineref02_Bits :=
 fn_of (Bt := blook []) (l := [(76, .pu s_gradineref02_Size), (164, .pu s_gradineref01_Len)]) (C := noCuts) (by kernel_rfl) tab_ok ⟨o_gradineref02_Size, o_gradineref01_Len, trivial⟩ (fn := Try.f116) (by kernel_rfl) rfl (by kernel_rfl) (by decide) (by kernel_rfl) (F := fun k x => gradineref02_Bits.f k x.1) (m := m_gradineref02_Bits) (fun k x => rfl)
  (by exact trivial)
  (fun k ⟨(a0 : List Int), _⟩ => by show LeT m_gradineref02_Bits (gradineref02_Bits.f k a0) _; unfold gradineref02_Bits.f; exact go)
end
section
def s_gradineref04_set : FSpec := ⟨[(.row 22 (.int .u64)), .int .i64], [(.row 22 (.int .u64))], fun k x => (gradineref04_set.f k x.1 x.2.1).map fun r => (r, ())⟩
def m_gradineref04_set (r : List Int) : TT s_gradineref04_set.rs := (r, ())
@[reducible] def q0_gradineref04_set : List Slot := [.tmp 0 [.ty (.row 22 (.int .u64))], .tmp 1 [.ty (.int .i64)], .tmp 5 [.own .mine 5 22 (.int .u64)], .tmp 13 [.ty (.int .i64)], .tmp 14 [.ty (.int .i64)]]
def g0_gradineref04_set (k : Nat) (x : TS q0_gradineref04_set) : Option (List Int) := gradineref04_set.l0 k x.1.1 x.2.1.1 x.2.2.1.1 x.2.2.2.1.1 x.2.2.2.2.1.1
def c_gradineref04_set : Cuts (TT s_gradineref04_set.rs) := ⟨⟨41, 41, []⟩, lookC [(0, ⟨q0_gradineref04_set, fun k x => (g0_gradineref04_set k x).map m_gradineref04_set⟩)], lookC [], lookC []⟩
theorem o_gradineref04_set : FOk Try.prog 171 s_gradineref04_set :=
 fn_of (Bt := blook []) (l := []) (C := c_gradineref04_set) (by kernel_rfl) tab_ok trivial (fn := Try.f171) (by kernel_rfl) rfl (by kernel_rfl) (by decide) (by kernel_rfl) (F := fun k x => gradineref04_set.f k x.1 x.2.1) (m := m_gradineref04_set) (fun k x => rfl)
  (by
   refine And.intro ?_ ?_
   ·refine ob_loop (sl := q0_gradineref04_set) (F := g0_gradineref04_set) (fun x => rfl) fun k ⟨⟨(x0 : List Int), _⟩, ⟨(x1 : Int), _⟩, ⟨(x5 : List Int), _⟩, ⟨(x13 : Int), _⟩, ⟨(x14 : Int), _⟩, _⟩ => ?_
    show LeT m_gradineref04_set (gradineref04_set.l0 (k + 1) x0 x1 x5 x13 x14) _
    rw [gradineref04_set.l0]; exact go
   exact trivial)
  (fun k ⟨(a0 : List Int), (a1 : Int), _⟩ => by show LeT m_gradineref04_set (gradineref04_set.f k a0 a1) _; unfold gradineref04_set.f; exact go)
end
section
attribute [local irreducible] gradineref02_Shl.f gradineref02_Size.f gradineref02_Cmp.f gradineref02_Sub.f gradineref02_Shr.f gradineref02_Bits.f gradineref02_Trim.f gradineref02_Bit.f gradineref04_set.f
def s_gradineref04_Div : FSpec := ⟨[(.row 22 (.int .u64)), (.row 22 (.int .u64))], [(.row 22 (.int .u64)), (.row 22 (.int .u64))], fun k x => (gradineref04_Div.f k x.1 x.2.1).map fun r => (r.1, r.2, ())⟩
def m_gradineref04_Div (r : List Int × List Int) : TT s_gradineref04_Div.rs := (r.1, r.2, ())
@[reducible] def q0_gradineref04_Div : List Slot := [.tmp 0 [.ty (.row 22 (.int .u64))], .tmp 1 [.ty (.row 22 (.int .u64))], .tmp 6 [.ty (.row 22 (.int .u64))], .tmp 18 [.ty .bool]]
def g0_gradineref04_Div (k : Nat) (x : TS q0_gradineref04_Div) : Option (List Int × List Int) := gradineref04_Div.j0 k x.1.1 x.2.1.1 x.2.2.1.1 x.2.2.2.1.1
@[reducible] def q1_gradineref04_Div : List Slot := [.tmp 0 [.ty (.row 22 (.int .u64))], .tmp 1 [.ty (.row 22 (.int .u64))], .tmp 6 [.ty (.row 22 (.int .u64))], .tmp 7 [.ty (.row 22 (.int .u64))], .tmp 10 [.ty (.int .i64)]]
def g1_gradineref04_Div (k : Nat) (x : TS q1_gradineref04_Div) : Option (List Int × List Int) := gradineref04_Div.l0 k x.1.1 x.2.1.1 x.2.2.1.1 x.2.2.2.1.1 x.2.2.2.2.1.1
@[reducible] def q2_gradineref04_Div : List Slot := [.tmp 0 [.ty (.row 22 (.int .u64))], .tmp 1 [.ty (.row 22 (.int .u64))], .tmp 6 [.ty (.row 22 (.int .u64))], .tmp 7 [.ty (.row 22 (.int .u64))], .tmp 10 [.ty (.int .i64)]]
def g2_gradineref04_Div (k : Nat) (x : TS q2_gradineref04_Div) : Option (List Int × List Int) := gradineref04_Div.j2 k x.1.1 x.2.1.1 x.2.2.1.1 x.2.2.2.1.1 x.2.2.2.2.1.1
def c_gradineref04_Div : Cuts (TT s_gradineref04_Div.rs) := ⟨⟨75, 75, []⟩, lookC [(0, ⟨q1_gradineref04_Div, fun k x => (g1_gradineref04_Div k x).map m_gradineref04_Div⟩)], lookC [(13, ⟨q2_gradineref04_Div, fun k x => (g2_gradineref04_Div k x).map m_gradineref04_Div⟩)], lookC [(2, ⟨q0_gradineref04_Div, fun k x => (g0_gradineref04_Div k x).map m_gradineref04_Div⟩)]⟩
theorem o_gradineref04_Div : FOk Try.prog 140 s_gradineref04_Div :=
 fn_of (Bt := blook [(3, [0, 1, 3, 0, 8, 24, 63, 127, 255, 0, 512, 1536, 0, 4096, 12288, 32256, 65024, 131071, 262143, 524287])]) (l := [(73, .pu s_gradineref02_Shl), (76, .pu s_gradineref02_Size), (81, .pu s_gradineref02_Cmp), (82, .pu s_gradineref02_Sub), (115, .pu s_gradineref02_Shr), (116, .pu s_gradineref02_Bits), (137, .pu s_gradineref02_Trim), (162, .pu s_gradineref02_Bit), (171, .pu s_gradineref04_set)]) (C := c_gradineref04_Div) (by kernel_rfl) tab_ok ⟨o_gradineref02_Shl, o_gradineref02_Size, o_gradineref02_Cmp, o_gradineref02_Sub, o_gradineref02_Shr, o_gradineref02_Bits, o_gradineref02_Trim, o_gradineref02_Bit, o_gradineref04_set, trivial⟩ (fn := Try.f140) (by kernel_rfl) rfl (by kernel_rfl) (by decide) (by kernel_rfl) (F := fun k x => gradineref04_Div.f k x.1 x.2.1) (m := m_gradineref04_Div) (fun k x => rfl)
  (by
   refine And.intro ?_ ?_
   ·refine ob_join1 (sl := q0_gradineref04_Div) (F := g0_gradineref04_Div) (fun x => rfl) fun k ⟨⟨(x0 : List Int), _⟩, ⟨(x1 : List Int), _⟩, ⟨(x6 : List Int), _⟩, ⟨(x18 : Bool), _⟩, _⟩ => ?_
    show LeT m_gradineref04_Div (gradineref04_Div.j0 (k + 1) x0 x1 x6 x18) _
    rw [gradineref04_Div.j0]; exact go
   refine And.intro ?_ ?_
   ·refine ob_loop (sl := q1_gradineref04_Div) (F := g1_gradineref04_Div) (fun x => rfl) fun k ⟨⟨(x0 : List Int), _⟩, ⟨(x1 : List Int), _⟩, ⟨(x6 : List Int), _⟩, ⟨(x7 : List Int), _⟩, ⟨(x10 : Int), _⟩, _⟩ => ?_
    show LeT m_gradineref04_Div (gradineref04_Div.l0 (k + 1) x0 x1 x6 x7 x10) _
    rw [gradineref04_Div.l0]; exact go
   refine And.intro ?_ ?_
   ·refine ob_join1 (sl := q2_gradineref04_Div) (F := g2_gradineref04_Div) (fun x => rfl) fun k ⟨⟨(x0 : List Int), _⟩, ⟨(x1 : List Int), _⟩, ⟨(x6 : List Int), _⟩, ⟨(x7 : List Int), _⟩, ⟨(x10 : Int), _⟩, _⟩ => ?_
    show LeT m_gradineref04_Div (gradineref04_Div.j2 (k + 1) x0 x1 x6 x7 x10) _
    rw [gradineref04_Div.j2]; exact go
   exact trivial)
  (fun k ⟨(a0 : List Int), (a1 : List Int), _⟩ => by show LeT m_gradineref04_Div (gradineref04_Div.f k a0 a1) _; unfold gradineref04_Div.f; exact go)
end
section
attribute [local irreducible] gradineref02_Size.f gradineref02_Cmp.f gradineref02_Trim.f gradineref04_Div.f
def s_gradineref05_Part : FSpec := ⟨[(.row 22 (.int .u64)), (.row 22 (.int .u64))], [(.row 22 (.int .u64))], fun k x => (gradineref05_Part.f k x.1 x.2.1).map fun r => (r, ())⟩
def m_gradineref05_Part (r : List Int) : TT s_gradineref05_Part.rs := (r, ())
theorem o_gradineref05_Part : FOk Try.prog 78 s_gradineref05_Part :=
 fn_of (Bt := blook []) (l := [(76, .pu s_gradineref02_Size), (81, .pu s_gradineref02_Cmp), (137, .pu s_gradineref02_Trim), (140, .pu s_gradineref04_Div)]) (C := noCuts) (by kernel_rfl) tab_ok ⟨o_gradineref02_Size, o_gradineref02_Cmp, o_gradineref02_Trim, o_gradineref04_Div, trivial⟩ (fn := Try.f78) (by kernel_rfl) rfl (by kernel_rfl) (by decide) (by kernel_rfl) (F := fun k x => gradineref05_Part.f k x.1 x.2.1) (m := m_gradineref05_Part) (fun k x => rfl)
  (by exact trivial)
  (fun k ⟨(a0 : List Int), (a1 : List Int), _⟩ => by show LeT m_gradineref05_Part (gradineref05_Part.f k a0 a1) _; unfold gradineref05_Part.f; exact go)
end
section
attribute [local irreducible] gradineref02_Size.f gradineref05_Gcd.f gradineref05_Part.f
def s_gradineref07_Make : FSpec := ⟨[.bool, (.row 22 (.int .u64)), (.row 22 (.int .u64))], [(.cons .bool (.cons (.row 22 (.int .u64)) (.row 22 (.int .u64))))], fun k x => (gradineref07_Make.f k x.1 x.2.1 x.2.2.1).map fun r => ((r.1, r.2.1, r.2.2), ())⟩
def m_gradineref07_Make (r : Bool × List Int × List Int) : TT s_gradineref07_Make.rs := ((r.1, r.2.1, r.2.2), ())
theorem o_gradineref07_Make : FOk Try.prog 22 s_gradineref07_Make :=
 fn_of (Bt := blook []) (l := [(76, .pu s_gradineref02_Size), (77, .pu s_gradineref05_Gcd), (78, .pu s_gradineref05_Part)]) (C := noCuts) (by kernel_rfl) tab_ok ⟨o_gradineref02_Size, o_gradineref05_Gcd, o_gradineref05_Part, trivial⟩ (fn := Try.f22) (by kernel_rfl) rfl (by kernel_rfl) (by decide) (by kernel_rfl) (F := fun k x => gradineref07_Make.f k x.1 x.2.1 x.2.2.1) (m := m_gradineref07_Make) (fun k x => rfl)
  (by exact trivial)
  (fun k ⟨(a0 : Bool), (a1 : List Int), (a2 : List Int), _⟩ => by show LeT m_gradineref07_Make (gradineref07_Make.f k a0 a1 a2) _; unfold gradineref07_Make.f; exact go)
end
section
attribute [local irreducible] gradineref02_Halves.f gradineref02_Whole.f
def s_gradineref03_Mul : FSpec := ⟨[(.row 22 (.int .u64)), (.row 22 (.int .u64))], [(.row 22 (.int .u64))], fun k x => (gradineref03_Mul.f k x.1 x.2.1).map fun r => (r, ())⟩
def m_gradineref03_Mul (r : List Int) : TT s_gradineref03_Mul.rs := (r, ())
@[reducible] def q0_gradineref03_Mul : List Slot := [.tmp 5 [.ty (.row 22 (.int .u64))], .tmp 6 [.ty (.row 22 (.int .u64))], .tmp 7 [.own .mine 7 22 (.int .u64)], .tmp 23 [.ty (.int .i64)], .tmp 24 [.ty (.int .i64)]]
def g0_gradineref03_Mul (k : Nat) (x : TS q0_gradineref03_Mul) : Option (List Int) := gradineref03_Mul.l0 k x.1.1 x.2.1.1 x.2.2.1.1 x.2.2.2.1.1 x.2.2.2.2.1.1
@[reducible] def q1_gradineref03_Mul : List Slot := [.tmp 5 [.ty (.row 22 (.int .u64))], .tmp 6 [.ty (.row 22 (.int .u64))], .tmp 7 [.own .mine 7 22 (.int .u64)], .tmp 8 [.ty (.int .i64)], .tmp 9 [.ty (.int .u64)], .tmp 23 [.ty (.int .i64)], .tmp 24 [.ty (.int .i64)], .tmp 28 [.ty (.int .i64)], .tmp 29 [.ty (.int .i64)]]
def g1_gradineref03_Mul (k : Nat) (x : TS q1_gradineref03_Mul) : Option (List Int) := gradineref03_Mul.l1 k x.1.1 x.2.1.1 x.2.2.1.1 x.2.2.2.1.1 x.2.2.2.2.1.1 x.2.2.2.2.2.1.1 x.2.2.2.2.2.2.1.1 x.2.2.2.2.2.2.2.1.1 x.2.2.2.2.2.2.2.2.1.1
def c_gradineref03_Mul : Cuts (TT s_gradineref03_Mul.rs) := ⟨⟨70, 70, []⟩, lookC [(0, ⟨q0_gradineref03_Mul, fun k x => (g0_gradineref03_Mul k x).map m_gradineref03_Mul⟩), (1, ⟨q1_gradineref03_Mul, fun k x => (g1_gradineref03_Mul k x).map m_gradineref03_Mul⟩)], lookC [], lookC []⟩
theorem o_gradineref03_Mul : FOk Try.prog 79 s_gradineref03_Mul :=
 fn_of (Bt := blook [(10, [0, 0, 0, 6, 14, 0, 0, 96, 224, 510, 1023, 0, 0, 0, 12288, 30720, 63488, 131071, 262143])]) (l := [(141, .pu s_gradineref02_Halves), (142, .pu s_gradineref02_Whole)]) (C := c_gradineref03_Mul) (by kernel_rfl) tab_ok ⟨o_gradineref02_Halves, o_gradineref02_Whole, trivial⟩ (fn := Try.f79) (by kernel_rfl) rfl (by kernel_rfl) (by decide) (by kernel_rfl) (F := fun k x => gradineref03_Mul.f k x.1 x.2.1) (m := m_gradineref03_Mul) (fun k x => rfl)
  (by
   refine And.intro ?_ ?_
   ·refine ob_loop (sl := q0_gradineref03_Mul) (F := g0_gradineref03_Mul) (fun x => rfl) fun k ⟨⟨(x5 : List Int), _⟩, ⟨(x6 : List Int), _⟩, ⟨(x7 : List Int), _⟩, ⟨(x23 : Int), _⟩, ⟨(x24 : Int), _⟩, _⟩ => ?_
    show LeT m_gradineref03_Mul (gradineref03_Mul.l0 (k + 1) x5 x6 x7 x23 x24) _
    rw [gradineref03_Mul.l0]; exact go
   refine And.intro ?_ ?_
   ·refine ob_loop (sl := q1_gradineref03_Mul) (F := g1_gradineref03_Mul) (fun x => rfl) fun k ⟨⟨(x5 : List Int), _⟩, ⟨(x6 : List Int), _⟩, ⟨(x7 : List Int), _⟩, ⟨(x8 : Int), _⟩, ⟨(x9 : Int), _⟩, ⟨(x23 : Int), _⟩, ⟨(x24 : Int), _⟩, ⟨(x28 : Int), _⟩, ⟨(x29 : Int), _⟩, _⟩ => ?_
    show LeT m_gradineref03_Mul (gradineref03_Mul.l1 (k + 1) x5 x6 x7 x8 x9 x23 x24 x28 x29) _
    rw [gradineref03_Mul.l1]; exact go
   exact trivial)
  (fun k ⟨(a0 : List Int), (a1 : List Int), _⟩ => by show LeT m_gradineref03_Mul (gradineref03_Mul.f k a0 a1) _; unfold gradineref03_Mul.f; exact go)
end
section
attribute [local irreducible] gradineref02_Halves.f gradineref02_Whole.f gradineref02_at.f
def s_gradineref02_Add : FSpec := ⟨[(.row 22 (.int .u64)), (.row 22 (.int .u64))], [(.row 22 (.int .u64))], fun k x => (gradineref02_Add.f k x.1 x.2.1).map fun r => (r, ())⟩
def m_gradineref02_Add (r : List Int) : TT s_gradineref02_Add.rs := (r, ())
@[reducible] def q0_gradineref02_Add : List Slot := [.tmp 5 [.ty (.row 22 (.int .u64))], .tmp 6 [.ty (.row 22 (.int .u64))], .tmp 7 [.own .mine 7 22 (.int .u64)], .tmp 8 [.ty (.int .u64)], .tmp 19 [.ty (.int .i64)], .tmp 20 [.ty (.int .i64)]]
def g0_gradineref02_Add (k : Nat) (x : TS q0_gradineref02_Add) : Option (List Int) := gradineref02_Add.l0 k x.1.1 x.2.1.1 x.2.2.1.1 x.2.2.2.1.1 x.2.2.2.2.1.1 x.2.2.2.2.2.1.1
def c_gradineref02_Add : Cuts (TT s_gradineref02_Add.rs) := ⟨⟨42, 42, []⟩, lookC [(0, ⟨q0_gradineref02_Add, fun k x => (g0_gradineref02_Add k x).map m_gradineref02_Add⟩)], lookC [], lookC []⟩
theorem o_gradineref02_Add : FOk Try.prog 80 s_gradineref02_Add :=
 fn_of (Bt := blook []) (l := [(141, .pu s_gradineref02_Halves), (142, .pu s_gradineref02_Whole), (143, .pu s_gradineref02_at)]) (C := c_gradineref02_Add) (by kernel_rfl) tab_ok ⟨o_gradineref02_Halves, o_gradineref02_Whole, o_gradineref02_at, trivial⟩ (fn := Try.f80) (by kernel_rfl) rfl (by kernel_rfl) (by decide) (by kernel_rfl) (F := fun k x => gradineref02_Add.f k x.1 x.2.1) (m := m_gradineref02_Add) (fun k x => rfl)
  (by
   refine And.intro ?_ ?_
   ·refine ob_loop (sl := q0_gradineref02_Add) (F := g0_gradineref02_Add) (fun x => rfl) fun k ⟨⟨(x5 : List Int), _⟩, ⟨(x6 : List Int), _⟩, ⟨(x7 : List Int), _⟩, ⟨(x8 : Int), _⟩, ⟨(x19 : Int), _⟩, ⟨(x20 : Int), _⟩, _⟩ => ?_
    show LeT m_gradineref02_Add (gradineref02_Add.l0 (k + 1) x5 x6 x7 x8 x19 x20) _
    rw [gradineref02_Add.l0]; exact go
   exact trivial)
  (fun k ⟨(a0 : List Int), (a1 : List Int), _⟩ => by show LeT m_gradineref02_Add (gradineref02_Add.f k a0 a1) _; unfold gradineref02_Add.f; exact go)
end
section
attribute [local irreducible] gradineref07_Make.f gradineref03_Mul.f gradineref02_Add.f gradineref02_Cmp.f gradineref02_Sub.f
def s_gradineref07_Add : FSpec := ⟨[(.cons .bool (.cons (.row 22 (.int .u64)) (.row 22 (.int .u64)))), (.cons .bool (.cons (.row 22 (.int .u64)) (.row 22 (.int .u64))))], [(.cons .bool (.cons (.row 22 (.int .u64)) (.row 22 (.int .u64))))], fun k x => (gradineref07_Add.f k x.1.1 x.1.2.1 x.1.2.2 x.2.1.1 x.2.1.2.1 x.2.1.2.2).map fun r => ((r.1, r.2.1, r.2.2), ())⟩
def m_gradineref07_Add (r : Bool × List Int × List Int) : TT s_gradineref07_Add.rs := ((r.1, r.2.1, r.2.2), ())
theorem o_gradineref07_Add : FOk Try.prog 23 s_gradineref07_Add :=
 fn_of (Bt := blook [(5, [0, 1, 0, 0, 12, 0, 63, 127]), (7, [0, 1, 0, 0, 12, 0, 63, 127]), (8, [0, 1, 0, 0, 12, 0, 63, 127])]) (l := [(22, .pu s_gradineref07_Make), (79, .pu s_gradineref03_Mul), (80, .pu s_gradineref02_Add), (81, .pu s_gradineref02_Cmp), (82, .pu s_gradineref02_Sub)]) (C := noCuts) (by kernel_rfl) tab_ok ⟨o_gradineref07_Make, o_gradineref03_Mul, o_gradineref02_Add, o_gradineref02_Cmp, o_gradineref02_Sub, trivial⟩ (fn := Try.f23) (by kernel_rfl) rfl (by kernel_rfl) (by decide) (by kernel_rfl) (F := fun k x => gradineref07_Add.f k x.1.1 x.1.2.1 x.1.2.2 x.2.1.1 x.2.1.2.1 x.2.1.2.2) (m := m_gradineref07_Add) (fun k x => rfl)
  (by exact trivial)
  (fun k ⟨(a0 : Bool × List Int × List Int), (a1 : Bool × List Int × List Int), _⟩ => by show LeT m_gradineref07_Add (gradineref07_Add.f k a0.1 a0.2.1 a0.2.2 a1.1 a1.2.1 a1.2.2) _; unfold gradineref07_Add.f; exact go)
end
section
attribute [local irreducible] gradineref07_Make.f
def s_gradineref07_Neg : FSpec := ⟨[(.cons .bool (.cons (.row 22 (.int .u64)) (.row 22 (.int .u64))))], [(.cons .bool (.cons (.row 22 (.int .u64)) (.row 22 (.int .u64))))], fun k x => (gradineref07_Neg.f k x.1.1 x.1.2.1 x.1.2.2).map fun r => ((r.1, r.2.1, r.2.2), ())⟩
def m_gradineref07_Neg (r : Bool × List Int × List Int) : TT s_gradineref07_Neg.rs := ((r.1, r.2.1, r.2.2), ())
theorem o_gradineref07_Neg : FOk Try.prog 138 s_gradineref07_Neg :=
 fn_of (Bt := blook []) (l := [(22, .pu s_gradineref07_Make)]) (C := noCuts) (by kernel_rfl) tab_ok ⟨o_gradineref07_Make, trivial⟩ (fn := Try.f138) (by kernel_rfl) rfl (by kernel_rfl) (by decide) (by kernel_rfl) (F := fun k x => gradineref07_Neg.f k x.1.1 x.1.2.1 x.1.2.2) (m := m_gradineref07_Neg) (fun k x => rfl)
  (by exact trivial)
  (fun k ⟨(a0 : Bool × List Int × List Int), _⟩ => by show LeT m_gradineref07_Neg (gradineref07_Neg.f k a0.1 a0.2.1 a0.2.2) _; unfold gradineref07_Neg.f; exact go)
end
section
attribute [local irreducible] gradineref07_Add.f gradineref07_Neg.f
def s_gradineref07_Sub : FSpec := ⟨[(.cons .bool (.cons (.row 22 (.int .u64)) (.row 22 (.int .u64)))), (.cons .bool (.cons (.row 22 (.int .u64)) (.row 22 (.int .u64))))], [(.cons .bool (.cons (.row 22 (.int .u64)) (.row 22 (.int .u64))))], fun k x => (gradineref07_Sub.f k x.1.1 x.1.2.1 x.1.2.2 x.2.1.1 x.2.1.2.1 x.2.1.2.2).map fun r => ((r.1, r.2.1, r.2.2), ())⟩
def m_gradineref07_Sub (r : Bool × List Int × List Int) : TT s_gradineref07_Sub.rs := ((r.1, r.2.1, r.2.2), ())
theorem o_gradineref07_Sub : FOk Try.prog 75 s_gradineref07_Sub :=
 fn_of (Bt := blook [(1, [0, 0, 2, 7, 15])]) (l := [(23, .pu s_gradineref07_Add), (138, .pu s_gradineref07_Neg)]) (C := noCuts) (by kernel_rfl) tab_ok ⟨o_gradineref07_Add, o_gradineref07_Neg, trivial⟩ (fn := Try.f75) (by kernel_rfl) rfl (by kernel_rfl) (by decide) (by kernel_rfl) (F := fun k x => gradineref07_Sub.f k x.1.1 x.1.2.1 x.1.2.2 x.2.1.1 x.2.1.2.1 x.2.1.2.2) (m := m_gradineref07_Sub) (fun k x => rfl)
  (by exact trivial)
  (fun k ⟨(a0 : Bool × List Int × List Int), (a1 : Bool × List Int × List Int), _⟩ => by show LeT m_gradineref07_Sub (gradineref07_Sub.f k a0.1 a0.2.1 a0.2.2 a1.1 a1.2.1 a1.2.2) _; unfold gradineref07_Sub.f; exact go)
end
section
attribute [local irreducible] gradineref07_Sign.f gradineref07_Sub.f
def s_gradineref07_Cmp : FSpec := ⟨[(.cons .bool (.cons (.row 22 (.int .u64)) (.row 22 (.int .u64)))), (.cons .bool (.cons (.row 22 (.int .u64)) (.row 22 (.int .u64))))], [.int .i64], fun k x => (gradineref07_Cmp.f k x.1.1 x.1.2.1 x.1.2.2 x.2.1.1 x.2.1.2.1 x.2.1.2.2).map fun r => (r, ())⟩
def m_gradineref07_Cmp (r : Int) : TT s_gradineref07_Cmp.rs := (r, ())
theorem o_gradineref07_Cmp : FOk Try.prog 21 s_gradineref07_Cmp :=
 fn_of (Bt := blook []) (l := [(74, .pu s_gradineref07_Sign), (75, .pu s_gradineref07_Sub)]) (C := noCuts) (by kernel_rfl) tab_ok ⟨o_gradineref07_Sign, o_gradineref07_Sub, trivial⟩ (fn := Try.f21) (by kernel_rfl) rfl (by kernel_rfl) (by decide) (by kernel_rfl) (F := fun k x => gradineref07_Cmp.f k x.1.1 x.1.2.1 x.1.2.2 x.2.1.1 x.2.1.2.1 x.2.1.2.2) (m := m_gradineref07_Cmp) (fun k x => rfl)
  (by exact trivial)
  (fun k ⟨(a0 : Bool × List Int × List Int), (a1 : Bool × List Int × List Int), _⟩ => by show LeT m_gradineref07_Cmp (gradineref07_Cmp.f k a0.1 a0.2.1 a0.2.2 a1.1 a1.2.1 a1.2.2) _; unfold gradineref07_Cmp.f; exact go)
end
end Go.Proofs.Ytjocbnjpjihpnaa.A
