/- Functions that come to what their texts say. -/
import Derived.Test.YtbpggonjcnakgaaProg
import Derived.Test.YtbpggonjcnakgaaWWb
import Derived.KernelRfl
import Derived.Test.YtbpggonjcnakgaaBfbits
import Derived.Test.YtbpggonjcnakgaaBlimb
import Derived.Test.YtbpggonjcnakgaaBfround
import Derived.Test.YtbpggonjcnakgaaBnat
import Derived.Test.YtbpggonjcnakgaaBgradineref09
import Derived.Test.YtbpggonjcnakgaaBgradineref02
import Derived.Test.YtbpggonjcnakgaaBgradineref01
import Derived.Test.YtbpggonjcnakgaaBgradineref10
import Derived.Test.YtbpggonjcnakgaaFgradinelaw10same
import Derived.Test.YtbpggonjcnakgaaBgradineref05
import Derived.Test.YtbpggonjcnakgaaBgradineref04
import Derived.Test.YtbpggonjcnakgaaBgradineref07
namespace Go.Proofs.Ytbpggonjcnakgaa.A
open Go.RowKit Go.Proofs.Ytbpggonjcnakgaa.P Go.Proofs.YtbpggonjcnakgaaW.PrintWords Go.Proofs.YtbpggonjcnakgaaW.PrintLast Go.Proofs.YtbpggonjcnakgaaW.PrintMore Go.Proofs.YtbpggonjcnakgaaW.Abs
set_option linter.unusedVariables false
set_option linter.unusedSimpArgs false
set_option maxRecDepth 100000
set_option maxHeartbeats 4000000
end Go.Proofs.Ytbpggonjcnakgaa.A
namespace Go.Proofs.Ytbpggonjcnakgaa.A
open Go.Proofs.YtbpggonjcnakgaaW.Abs
def tab : Tab := [(2, ⟨1, 8, [.ro (.int .i64) (0 : Int)], .int .i64, some (.int .i64)⟩),
 (3, ⟨1, 8, [.ro (.int .i64) (0 : Int)], .int .i64, some (.int .i64)⟩),
 (4, ⟨1, 1, [.ro .bool false], .bool, some .bool⟩),
 (5, ⟨1, 1, [.ro (.int .u8) (0 : Int)], .int .u8, some (.int .u8)⟩),
 (9, ⟨1, 16, [.ro .str (⟨#[]⟩ : ByteArray)], .str, some .str⟩),
 (13, ⟨2, 24, [.ro .str (⟨#[]⟩ : ByteArray), .ro (.int .u64) (0 : Int)], .struct [(0, 1), (1, 1)], some (.cons .str (.int .u64))⟩),
 (21, ⟨1, 4, [.ro (.int .i32) (0 : Int)], .int .i32, some (.int .i32)⟩),
 (22, ⟨1, 8, [.ro (.int .u64) (0 : Int)], .int .u64, some (.int .u64)⟩),
 (30, ⟨1, 24, [.nils], .slice 22, some (.row 22 (.int .u64))⟩),
 (31, ⟨3, 56, [.ro .bool false, .nils, .nils], .struct [(0, 1), (1, 1), (2, 1)], some (.cons .bool (.cons (.row 22 (.int .u64)) (.row 22 (.int .u64))))⟩),
 (32, ⟨3, 56, [.ro .bool false, .nils, .nils], .struct [(0, 1), (1, 1), (2, 1)], some (.cons .bool (.cons (.row 22 (.int .u64)) (.row 22 (.int .u64))))⟩),
 (53, ⟨4, 40, [.ro .bool false, .ro .bool false, .nils, .ro (.int .i64) (0 : Int)], .struct [(0, 1), (1, 1), (2, 1), (3, 1)], some (.cons .bool (.cons .bool (.cons (.row 22 (.int .u64)) (.int .i64))))⟩),
 (54, ⟨4, 40, [.ro .bool false, .ro .bool false, .nils, .ro (.int .i64) (0 : Int)], .struct [(0, 1), (1, 1), (2, 1), (3, 1)], some (.cons .bool (.cons .bool (.cons (.row 22 (.int .u64)) (.int .i64))))⟩),
 (61, ⟨1, 8, [.ro (.int .i64) (0 : Int)], .int .i64, some (.int .i64)⟩),
 (66, ⟨1, 8, [.ro (.int .u64) (0 : Int)], .int .u64, some (.int .u64)⟩),
 (77, ⟨3, 24, [.ro .bool false, .ro (.int .u64) (0 : Int), .ro (.int .i64) (0 : Int)], .struct [(0, 1), (1, 1), (2, 1)], some (.cons .bool (.cons (.int .u64) (.int .i64)))⟩),
 (78, ⟨3, 24, [.ro .bool false, .ro (.int .u64) (0 : Int), .ro (.int .i64) (0 : Int)], .struct [(0, 1), (1, 1), (2, 1)], some (.cons .bool (.cons (.int .u64) (.int .i64)))⟩),
 (91, ⟨14, 112, [.ro (.int .i64) (0 : Int), .ro (.int .i64) (0 : Int), .ro (.int .i64) (0 : Int), .ro (.int .i64) (0 : Int), .ro (.int .i64) (0 : Int), .ro (.int .i64) (0 : Int), .ro (.int .i64) (0 : Int), .ro (.int .i64) (0 : Int), .ro (.int .i64) (0 : Int), .ro (.int .i64) (0 : Int), .ro (.int .i64) (0 : Int), .ro (.int .i64) (0 : Int), .ro (.int .i64) (0 : Int), .ro (.int .i64) (0 : Int)], .arr 14 3, none⟩),
 (115, ⟨1, 4, [.ro (.int .u32) (0 : Int)], .int .u32, some (.int .u32)⟩),
 (119, ⟨1, 8, [.nilp], .scal, none⟩)]
theorem tab_ok : Tab.ok Try.prog tab = true := by kernel_rfl
end Go.Proofs.Ytbpggonjcnakgaa.A
namespace Go.Proofs.Ytbpggonjcnakgaa.A
open Go.RowKit Go.Proofs.Ytbpggonjcnakgaa.P Go.Proofs.YtbpggonjcnakgaaW.PrintWords Go.Proofs.YtbpggonjcnakgaaW.PrintLast Go.Proofs.YtbpggonjcnakgaaW.PrintMore Go.Proofs.YtbpggonjcnakgaaW.Abs
set_option linter.unusedVariables false
set_option linter.unusedSimpArgs false
set_option maxRecDepth 100000
set_option maxHeartbeats 4000000
section
def s_fbits_signed : FSpec := ⟨[.bool, .int .u64], [.int .u64], fun _ x => (fbits_signed.f x.1 x.2.1).map fun r => (r, ())⟩
def m_fbits_signed (r : Int) : TT s_fbits_signed.rs := (r, ())
theorem o_fbits_signed : FOk Try.prog 86 s_fbits_signed :=
 fn_of (Bt := blook []) (l := []) (C := noCuts) (by kernel_rfl) tab_ok trivial (fn := Try.f86) (by kernel_rfl) rfl (by kernel_rfl) (by decide) (by kernel_rfl) (F := fun k x => fbits_signed.f x.1 x.2.1) (m := m_fbits_signed) (fun k x => rfl)
  (by exact trivial)
  (fun k ⟨(a0 : Bool), (a1 : Int), _⟩ => by show LeT m_fbits_signed (fbits_signed.f a0 a1) _; unfold fbits_signed.f; exact go)
end
section
attribute [local irreducible] fbits_signed.f
def s_fbits_Inf : FSpec := ⟨[.bool], [.int .u64], fun _ x => (fbits_Inf.f x.1).map fun r => (r, ())⟩
def m_fbits_Inf (r : Int) : TT s_fbits_Inf.rs := (r, ())
theorem o_fbits_Inf : FOk Try.prog 34 s_fbits_Inf :=
 fn_of (Bt := blook []) (l := [(86, s_fbits_signed)]) (C := noCuts) (by kernel_rfl) tab_ok ⟨o_fbits_signed, trivial⟩ (fn := Try.f34) (by kernel_rfl) rfl (by kernel_rfl) (by decide) (by kernel_rfl) (F := fun k x => fbits_Inf.f x.1) (m := m_fbits_Inf) (fun k x => rfl)
  (by exact trivial)
  (fun k ⟨(a0 : Bool), _⟩ => by show LeT m_fbits_Inf (fbits_Inf.f a0) _; unfold fbits_Inf.f; exact go)
end
section
def s_limb_Len : FSpec := ⟨[.int .u64], [.int .i64], fun k x => (limb_Len.f k x.1).map fun r => (r, ())⟩
def m_limb_Len (r : Int) : TT s_limb_Len.rs := (r, ())
@[reducible] def q0_limb_Len : List Slot := [.tmp 0 [.ty (.int .u64)], .tmp 3 [.ty (.int .i64)], .tmp 4 [.ty (.int .i64)]]
def g0_limb_Len (k : Nat) (x : TS q0_limb_Len) : Option (Int) := limb_Len.l0 k x.1.1 x.2.1.1 x.2.2.1.1
def c_limb_Len : Cuts (TT s_limb_Len.rs) := ⟨23, lookC [(0, ⟨q0_limb_Len, fun k x => (g0_limb_Len k x).map m_limb_Len⟩)], lookC [], lookC []⟩
theorem o_limb_Len : FOk Try.prog 87 s_limb_Len :=
 fn_of (Bt := blook []) (l := []) (C := c_limb_Len) (by kernel_rfl) tab_ok trivial (fn := Try.f87) (by kernel_rfl) rfl (by kernel_rfl) (by decide) (by kernel_rfl) (F := fun k x => limb_Len.f k x.1) (m := m_limb_Len) (fun k x => rfl)
  (by
   refine And.intro ?_ ?_
   ·refine ob_loop (sl := q0_limb_Len) (F := g0_limb_Len) (fun x => rfl) fun k ⟨⟨(x0 : Int), _⟩, ⟨(x3 : Int), _⟩, ⟨(x4 : Int), _⟩, _⟩ => ?_
    show LeT m_limb_Len (limb_Len.l0 (k + 1) x0 x3 x4) _
    rw [limb_Len.l0]; exact go
   exact trivial)
  (fun k ⟨(a0 : Int), _⟩ => by show LeT m_limb_Len (limb_Len.f k a0) _; unfold limb_Len.f; exact go)
end
section
attribute [local irreducible] fbits_signed.f limb_Len.f
def s_fbits_Make : FSpec := ⟨[.bool, .int .u64, .int .i64], [.int .u64, .bool], fun k x => (fbits_Make.f k x.1 x.2.1 x.2.2.1).map fun r => (r.1, r.2, ())⟩
def m_fbits_Make (r : Int × Bool) : TT s_fbits_Make.rs := (r.1, r.2, ())
theorem o_fbits_Make : FOk Try.prog 25 s_fbits_Make :=
 fn_of (Bt := blook []) (l := [(86, s_fbits_signed), (87, s_limb_Len)]) (C := noCuts) (by kernel_rfl) tab_ok ⟨o_fbits_signed, o_limb_Len, trivial⟩ (fn := Try.f25) (by kernel_rfl) rfl (by kernel_rfl) (by decide) (by kernel_rfl) (F := fun k x => fbits_Make.f k x.1 x.2.1 x.2.2.1) (m := m_fbits_Make) (fun k x => rfl)
  (by exact trivial)
  (fun k ⟨(a0 : Bool), (a1 : Int), (a2 : Int), _⟩ => by show LeT m_fbits_Make (fbits_Make.f k a0 a1 a2) _; unfold fbits_Make.f; unfold fbits_Make.j0; unfold fbits_Make.j1; unfold fbits_Make.j2; exact goq)
end
section
attribute [local irreducible] fbits_Make.f fbits_Inf.f
def s_fround_made : FSpec := ⟨[.bool, .int .u64, .int .i64], [.int .u64], fun k x => (fround_made.f k x.1 x.2.1 x.2.2.1).map fun r => (r, ())⟩
def m_fround_made (r : Int) : TT s_fround_made.rs := (r, ())
theorem o_fround_made : FOk Try.prog 92 s_fround_made :=
 fn_of (Bt := blook []) (l := [(25, s_fbits_Make), (34, s_fbits_Inf)]) (C := noCuts) (by kernel_rfl) tab_ok ⟨o_fbits_Make, o_fbits_Inf, trivial⟩ (fn := Try.f92) (by kernel_rfl) rfl (by kernel_rfl) (by decide) (by kernel_rfl) (F := fun k x => fround_made.f k x.1 x.2.1 x.2.2.1) (m := m_fround_made) (fun k x => rfl)
  (by exact trivial)
  (fun k ⟨(a0 : Bool), (a1 : Int), (a2 : Int), _⟩ => by show LeT m_fround_made (fround_made.f k a0 a1 a2) _; unfold fround_made.f; exact go)
end
section
def s_fround_even : FSpec := ⟨[.int .u64, .bool, .bool], [.int .u64], fun _ x => (fround_even.f x.1 x.2.1 x.2.2.1).map fun r => (r, ())⟩
def m_fround_even (r : Int) : TT s_fround_even.rs := (r, ())
theorem o_fround_even : FOk Try.prog 93 s_fround_even :=
 fn_of (Bt := blook []) (l := []) (C := noCuts) (by kernel_rfl) tab_ok trivial (fn := Try.f93) (by kernel_rfl) rfl (by kernel_rfl) (by decide) (by kernel_rfl) (F := fun k x => fround_even.f x.1 x.2.1 x.2.2.1) (m := m_fround_even) (fun k x => rfl)
  (by exact trivial)
  (fun k ⟨(a0 : Int), (a1 : Bool), (a2 : Bool), _⟩ => by show LeT m_fround_even (fround_even.f a0 a1 a2) _; unfold fround_even.f; exact go)
end
section
attribute [local irreducible] fbits_Inf.f limb_Len.f fround_made.f fround_even.f
def s_fround_Word : FSpec := ⟨[.bool, .int .u64, .int .i64], [.int .u64], fun k x => (fround_Word.f k x.1 x.2.1 x.2.2.1).map fun r => (r, ())⟩
def m_fround_Word (r : Int) : TT s_fround_Word.rs := (r, ())
theorem o_fround_Word : FOk Try.prog 36 s_fround_Word :=
 fn_of (Bt := blook []) (l := [(34, s_fbits_Inf), (87, s_limb_Len), (92, s_fround_made), (93, s_fround_even)]) (C := noCuts) (by kernel_rfl) tab_ok ⟨o_fbits_Inf, o_limb_Len, o_fround_made, o_fround_even, trivial⟩ (fn := Try.f36) (by kernel_rfl) rfl (by kernel_rfl) (by decide) (by kernel_rfl) (F := fun k x => fround_Word.f k x.1 x.2.1 x.2.2.1) (m := m_fround_Word) (fun k x => rfl)
  (by exact trivial)
  (fun k ⟨(a0 : Bool), (a1 : Int), (a2 : Int), _⟩ => by show LeT m_fround_Word (fround_Word.f k a0 a1 a2) _; unfold fround_Word.f; exact go)
end
section
attribute [local irreducible] fround_Word.f
def s_fround_FromInt : FSpec := ⟨[.int .i64], [.int .u64], fun k x => (fround_FromInt.f k x.1).map fun r => (r, ())⟩
def m_fround_FromInt (r : Int) : TT s_fround_FromInt.rs := (r, ())
theorem o_fround_FromInt : FOk Try.prog 64 s_fround_FromInt :=
 fn_of (Bt := blook []) (l := [(36, s_fround_Word)]) (C := noCuts) (by kernel_rfl) tab_ok ⟨o_fround_Word, trivial⟩ (fn := Try.f64) (by kernel_rfl) rfl (by kernel_rfl) (by decide) (by kernel_rfl) (F := fun k x => fround_FromInt.f k x.1) (m := m_fround_FromInt) (fun k x => rfl)
  (by exact trivial)
  (fun k ⟨(a0 : Int), _⟩ => by show LeT m_fround_FromInt (fround_FromInt.f k a0) _; unfold fround_FromInt.f; exact go)
end
section
def s_limb_Add : FSpec := ⟨[.int .u64, .int .u64, .int .u64], [.int .u64, .int .u64], fun _ x => (limb_Add.f x.1 x.2.1 x.2.2.1).map fun r => (r.1, r.2, ())⟩
def m_limb_Add (r : Int × Int) : TT s_limb_Add.rs := (r.1, r.2, ())
theorem o_limb_Add : FOk Try.prog 147 s_limb_Add :=
 fn_of (Bt := blook []) (l := []) (C := noCuts) (by kernel_rfl) tab_ok trivial (fn := Try.f147) (by kernel_rfl) rfl (by kernel_rfl) (by decide) (by kernel_rfl) (F := fun k x => limb_Add.f x.1 x.2.1 x.2.2.1) (m := m_limb_Add) (fun k x => rfl)
  (by exact trivial)
  (fun k ⟨(a0 : Int), (a1 : Int), (a2 : Int), _⟩ => by show LeT m_limb_Add (limb_Add.f a0 a1 a2) _; unfold limb_Add.f; exact go)
end
section
def s_nat_size : FSpec := ⟨[(.row 22 (.int .u64))], [.int .i64], fun k x => (nat_size.f k x.1).map fun r => (r, ())⟩
def m_nat_size (r : Int) : TT s_nat_size.rs := (r, ())
@[reducible] def q0_nat_size : List Slot := [.tmp 0 [.ty (.row 22 (.int .u64))], .tmp 3 [.ty (.int .i64)]]
def g0_nat_size (k : Nat) (x : TS q0_nat_size) : Option (Int) := nat_size.l0 k x.1.1 x.2.1.1
def c_nat_size : Cuts (TT s_nat_size.rs) := ⟨19, lookC [(0, ⟨q0_nat_size, fun k x => (g0_nat_size k x).map m_nat_size⟩)], lookC [], lookC []⟩
theorem o_nat_size : FOk Try.prog 149 s_nat_size :=
 fn_of (Bt := blook []) (l := []) (C := c_nat_size) (by kernel_rfl) tab_ok trivial (fn := Try.f149) (by kernel_rfl) rfl (by kernel_rfl) (by decide) (by kernel_rfl) (F := fun k x => nat_size.f k x.1) (m := m_nat_size) (fun k x => rfl)
  (by
   refine And.intro ?_ ?_
   ·refine ob_loop (sl := q0_nat_size) (F := g0_nat_size) (fun x => rfl) fun k ⟨⟨(x0 : List Int), _⟩, ⟨(x3 : Int), _⟩, _⟩ => ?_
    show LeT m_nat_size (nat_size.l0 (k + 1) x0 x3) _
    rw [nat_size.l0]; exact go
   exact trivial)
  (fun k ⟨(a0 : List Int), _⟩ => by show LeT m_nat_size (nat_size.f k a0) _; unfold nat_size.f; exact go)
end
section
attribute [local irreducible] nat_size.f
def s_nat_Trim : FSpec := ⟨[(.row 22 (.int .u64))], [(.row 22 (.int .u64))], fun k x => (nat_Trim.f k x.1).map fun r => (r, ())⟩
def m_nat_Trim (r : List Int) : TT s_nat_Trim.rs := (r, ())
theorem o_nat_Trim : FOk Try.prog 148 s_nat_Trim :=
 fn_of (Bt := blook []) (l := [(149, s_nat_size)]) (C := noCuts) (by kernel_rfl) tab_ok ⟨o_nat_size, trivial⟩ (fn := Try.f148) (by kernel_rfl) rfl (by kernel_rfl) (by decide) (by kernel_rfl) (F := fun k x => nat_Trim.f k x.1) (m := m_nat_Trim) (fun k x => rfl)
  (by exact trivial)
  (fun k ⟨(a0 : List Int), _⟩ => by show LeT m_nat_Trim (nat_Trim.f k a0) _; unfold nat_Trim.f; exact go)
end
section
attribute [local irreducible] limb_Add.f nat_Trim.f
def s_nat_Add : FSpec := ⟨[(.row 22 (.int .u64)), (.row 22 (.int .u64))], [(.row 22 (.int .u64))], fun k x => (nat_Add.f k x.1 x.2.1).map fun r => (r, ())⟩
def m_nat_Add (r : List Int) : TT s_nat_Add.rs := (r, ())
@[reducible] def q0_nat_Add : List Slot := [.tmp 1 [.ty (.row 22 (.int .u64))], .tmp 5 [.own 5 22 (.int .u64)], .tmp 6 [.ty (.int .u64)], .tmp 21 [.ty (.row 22 (.int .u64))], .tmp 22 [.ty (.int .i64)], .tmp 23 [.ty (.int .i64)]]
def g0_nat_Add (k : Nat) (x : TS q0_nat_Add) : Option (List Int) := nat_Add.l0 k x.1.1 x.2.1.1 x.2.2.1.1 x.2.2.2.1.1 x.2.2.2.2.1.1 x.2.2.2.2.2.1.1
def c_nat_Add : Cuts (TT s_nat_Add.rs) := ⟨53, lookC [(0, ⟨q0_nat_Add, fun k x => (g0_nat_Add k x).map m_nat_Add⟩)], lookC [], lookC []⟩
theorem e_nat_Add_l1 : nat_Add.l1 = nat_Add.l0 := by
 funext k
 induction k with
 | zero => rfl
 | succ k ih => funext x0 x1 x2 x3 x4 x5; simp only [nat_Add.l1, nat_Add.l0, ih]
theorem o_nat_Add : FOk Try.prog 111 s_nat_Add :=
 fn_of (Bt := blook []) (l := [(147, s_limb_Add), (148, s_nat_Trim)]) (C := c_nat_Add) (by kernel_rfl) tab_ok ⟨o_limb_Add, o_nat_Trim, trivial⟩ (fn := Try.f111) (by kernel_rfl) rfl (by kernel_rfl) (by decide) (by kernel_rfl) (F := fun k x => nat_Add.f k x.1 x.2.1) (m := m_nat_Add) (fun k x => rfl)
  (by
   refine And.intro ?_ ?_
   ·refine ob_loop (sl := q0_nat_Add) (F := g0_nat_Add) (fun x => rfl) fun k ⟨⟨(x1 : List Int), _⟩, ⟨(x5 : List Int), _⟩, ⟨(x6 : Int), _⟩, ⟨(x21 : List Int), _⟩, ⟨(x22 : Int), _⟩, ⟨(x23 : Int), _⟩, _⟩ => ?_
    show LeT m_nat_Add (nat_Add.l0 (k + 1) x1 x5 x6 x21 x22 x23) _
    rw [nat_Add.l0]; (try simp only [e_nat_Add_l1]); exact go
   exact trivial)
  (fun k ⟨(a0 : List Int), (a1 : List Int), _⟩ => by show LeT m_nat_Add (nat_Add.f k a0 a1) _; unfold nat_Add.f; (try simp only [e_nat_Add_l1]); exact go)
end
section
attribute [local irreducible] nat_Trim.f
def s_nat_Shl : FSpec := ⟨[(.row 22 (.int .u64)), .int .i64], [(.row 22 (.int .u64))], fun k x => (nat_Shl.f k x.1 x.2.1).map fun r => (r, ())⟩
def m_nat_Shl (r : List Int) : TT s_nat_Shl.rs := (r, ())
@[reducible] def q0_nat_Shl : List Slot := [.tmp 6 [.ty (.int .i64)], .tmp 7 [.own 7 22 (.int .u64)], .tmp 8 [.ty (.int .u64)], .tmp 25 [.ty (.row 22 (.int .u64))], .tmp 26 [.ty (.int .i64)], .tmp 27 [.ty (.int .i64)]]
def g0_nat_Shl (k : Nat) (x : TS q0_nat_Shl) : Option (List Int) := match x with | ⟨⟨(x6 : Int), _⟩, ⟨(x7 : List Int), _⟩, ⟨(x8 : Int), _⟩, ⟨(x25 : List Int), _⟩, ⟨(x26 : Int), _⟩, ⟨(x27 : Int), _⟩, _⟩ => if 0 ≤ x6 ∧ x6 < 64 then nat_Shl.l0 k x6 x7 x8 x25 x26 x27 else none
def c_nat_Shl : Cuts (TT s_nat_Shl.rs) := ⟨50, lookC [(0, ⟨q0_nat_Shl, fun k x => (g0_nat_Shl k x).map m_nat_Shl⟩)], lookC [], lookC []⟩
theorem o_nat_Shl : FOk Try.prog 112 s_nat_Shl :=
 fn_of (Bt := blook []) (l := [(148, s_nat_Trim)]) (C := c_nat_Shl) (by kernel_rfl) tab_ok ⟨o_nat_Trim, trivial⟩ (fn := Try.f112) (by kernel_rfl) rfl (by kernel_rfl) (by decide) (by kernel_rfl) (F := fun k x => nat_Shl.f k x.1 x.2.1) (m := m_nat_Shl) (fun k x => rfl)
  (by
   refine And.intro ?_ ?_
   ·refine ob_loop (sl := q0_nat_Shl) (F := g0_nat_Shl) (fun ⟨⟨(x6 : Int), _⟩, ⟨(x7 : List Int), _⟩, ⟨(x8 : Int), _⟩, ⟨(x25 : List Int), _⟩, ⟨(x26 : Int), _⟩, ⟨(x27 : Int), _⟩, _⟩ => by show (if 0 ≤ x6 ∧ x6 < 64 then nat_Shl.l0 0 x6 x7 x8 x25 x26 x27 else none) = none; split <;> rfl) fun k ⟨⟨(x6 : Int), _⟩, ⟨(x7 : List Int), _⟩, ⟨(x8 : Int), _⟩, ⟨(x25 : List Int), _⟩, ⟨(x26 : Int), _⟩, ⟨(x27 : Int), _⟩, _⟩ => ?_
    show LeT m_nat_Shl (if 0 ≤ x6 ∧ x6 < 64 then nat_Shl.l0 (k + 1) x6 x7 x8 x25 x26 x27 else none) _
    rw [nat_Shl.l0]; exact go
   exact trivial)
  (fun k ⟨(a0 : List Int), (a1 : Int), _⟩ => by show LeT m_nat_Shl (nat_Shl.f k a0 a1) _; unfold nat_Shl.f; exact go)
end
section
attribute [local irreducible] nat_Trim.f
def s_nat_Of : FSpec := ⟨[.int .u64], [(.row 22 (.int .u64))], fun k x => (nat_Of.f k x.1).map fun r => (r, ())⟩
def m_nat_Of (r : List Int) : TT s_nat_Of.rs := (r, ())
theorem o_nat_Of : FOk Try.prog 113 s_nat_Of :=
 fn_of (Bt := blook []) (l := [(148, s_nat_Trim)]) (C := noCuts) (by kernel_rfl) tab_ok ⟨o_nat_Trim, trivial⟩ (fn := Try.f113) (by kernel_rfl) rfl (by kernel_rfl) (by decide) (by kernel_rfl) (F := fun k x => nat_Of.f k x.1) (m := m_nat_Of) (fun k x => rfl)
  (by exact trivial)
  (fun k ⟨(a0 : Int), _⟩ => by show LeT m_nat_Of (nat_Of.f k a0) _; unfold nat_Of.f; exact go)
end
section
attribute [local irreducible] limb_Len.f nat_size.f
def s_nat_Bits : FSpec := ⟨[(.row 22 (.int .u64))], [.int .i64], fun k x => (nat_Bits.f k x.1).map fun r => (r, ())⟩
def m_nat_Bits (r : Int) : TT s_nat_Bits.rs := (r, ())
theorem o_nat_Bits : FOk Try.prog 114 s_nat_Bits :=
 fn_of (Bt := blook []) (l := [(87, s_limb_Len), (149, s_nat_size)]) (C := noCuts) (by kernel_rfl) tab_ok ⟨o_limb_Len, o_nat_size, trivial⟩ (fn := Try.f114) (by kernel_rfl) rfl (by kernel_rfl) (by decide) (by kernel_rfl) (F := fun k x => nat_Bits.f k x.1) (m := m_nat_Bits) (fun k x => rfl)
  (by exact trivial)
  (fun k ⟨(a0 : List Int), _⟩ => by show LeT m_nat_Bits (nat_Bits.f k a0) _; unfold nat_Bits.f; exact go)
end
section
attribute [local irreducible] nat_size.f
def s_nat_Word : FSpec := ⟨[(.row 22 (.int .u64))], [.int .u64, .bool], fun k x => (nat_Word.f k x.1).map fun r => (r.1, r.2, ())⟩
def m_nat_Word (r : Int × Bool) : TT s_nat_Word.rs := (r.1, r.2, ())
theorem o_nat_Word : FOk Try.prog 115 s_nat_Word :=
 fn_of (Bt := blook []) (l := [(149, s_nat_size)]) (C := noCuts) (by kernel_rfl) tab_ok ⟨o_nat_size, trivial⟩ (fn := Try.f115) (by kernel_rfl) rfl (by kernel_rfl) (by decide) (by kernel_rfl) (F := fun k x => nat_Word.f k x.1) (m := m_nat_Word) (fun k x => rfl)
  (by exact trivial)
  (fun k ⟨(a0 : List Int), _⟩ => by show LeT m_nat_Word (nat_Word.f k a0) _; unfold nat_Word.f; exact go)
end
section
attribute [local irreducible] nat_Trim.f
def s_nat_Shr : FSpec := ⟨[(.row 22 (.int .u64)), .int .i64], [(.row 22 (.int .u64))], fun k x => (nat_Shr.f k x.1 x.2.1).map fun r => (r, ())⟩
def m_nat_Shr (r : List Int) : TT s_nat_Shr.rs := (r, ())
@[reducible] def q0_nat_Shr : List Slot := [.tmp 0 [.ty (.row 22 (.int .u64))], .tmp 6 [.ty (.int .i64)], .tmp 7 [.own 7 22 (.int .u64)], .tmp 8 [.ty (.int .i64)]]
def g0_nat_Shr (k : Nat) (x : TS q0_nat_Shr) : Option (List Int) := match x with | ⟨⟨(x0 : List Int), _⟩, ⟨(x6 : Int), _⟩, ⟨(x7 : List Int), _⟩, ⟨(x8 : Int), _⟩, _⟩ => if 0 ≤ x6 ∧ x6 < 64 then nat_Shr.l0 k x0 x6 x7 x8 else none
def c_nat_Shr : Cuts (TT s_nat_Shr.rs) := ⟨59, lookC [(0, ⟨q0_nat_Shr, fun k x => (g0_nat_Shr k x).map m_nat_Shr⟩)], lookC [], lookC []⟩
theorem o_nat_Shr : FOk Try.prog 116 s_nat_Shr :=
 fn_of (Bt := blook [(12, [0, 0, 0, 6, 14, 0, 62, 0, 128, 0, 512, 1920, 4094, 8190, 16383, 32767])]) (l := [(148, s_nat_Trim)]) (C := c_nat_Shr) (by kernel_rfl) tab_ok ⟨o_nat_Trim, trivial⟩ (fn := Try.f116) (by kernel_rfl) rfl (by kernel_rfl) (by decide) (by kernel_rfl) (F := fun k x => nat_Shr.f k x.1 x.2.1) (m := m_nat_Shr) (fun k x => rfl)
  (by
   refine And.intro ?_ ?_
   ·refine ob_loop (sl := q0_nat_Shr) (F := g0_nat_Shr) (fun ⟨⟨(x0 : List Int), _⟩, ⟨(x6 : Int), _⟩, ⟨(x7 : List Int), _⟩, ⟨(x8 : Int), _⟩, _⟩ => by show (if 0 ≤ x6 ∧ x6 < 64 then nat_Shr.l0 0 x0 x6 x7 x8 else none) = none; split <;> rfl) fun k ⟨⟨(x0 : List Int), _⟩, ⟨(x6 : Int), _⟩, ⟨(x7 : List Int), _⟩, ⟨(x8 : Int), _⟩, _⟩ => ?_
    show LeT m_nat_Shr (if 0 ≤ x6 ∧ x6 < 64 then nat_Shr.l0 (k + 1) x0 x6 x7 x8 else none) _
    rw [nat_Shr.l0]; exact go
   exact trivial)
  (fun k ⟨(a0 : List Int), (a1 : Int), _⟩ => by show LeT m_nat_Shr (nat_Shr.f k a0 a1) _; unfold nat_Shr.f; exact go)
end
section
def s_nat_Bit : FSpec := ⟨[(.row 22 (.int .u64)), .int .i64], [.bool], fun _ x => (nat_Bit.f x.1 x.2.1).map fun r => (r, ())⟩
def m_nat_Bit (r : Bool) : TT s_nat_Bit.rs := (r, ())
theorem o_nat_Bit : FOk Try.prog 117 s_nat_Bit :=
 fn_of (Bt := blook []) (l := []) (C := noCuts) (by kernel_rfl) tab_ok trivial (fn := Try.f117) (by kernel_rfl) rfl (by kernel_rfl) (by decide) (by kernel_rfl) (F := fun k x => nat_Bit.f x.1 x.2.1) (m := m_nat_Bit) (fun k x => rfl)
  (by exact trivial)
  (fun k ⟨(a0 : List Int), (a1 : Int), _⟩ => by show LeT m_nat_Bit (nat_Bit.f a0 a1) _; unfold nat_Bit.f; exact go)
end
section
attribute [local irreducible] nat_Bits.f nat_Bit.f
def s_nat_Even : FSpec := ⟨[(.row 22 (.int .u64))], [.int .i64], fun k x => (nat_Even.f k x.1).map fun r => (r, ())⟩
def m_nat_Even (r : Int) : TT s_nat_Even.rs := (r, ())
@[reducible] def q0_nat_Even : List Slot := [.tmp 0 [.ty (.row 22 (.int .u64))], .tmp 7 [.ty (.int .i64)], .tmp 8 [.ty (.int .i64)]]
def g0_nat_Even (k : Nat) (x : TS q0_nat_Even) : Option (Int) := nat_Even.l0 k x.1.1 x.2.1.1 x.2.2.1.1
def c_nat_Even : Cuts (TT s_nat_Even.rs) := ⟨16, lookC [(0, ⟨q0_nat_Even, fun k x => (g0_nat_Even k x).map m_nat_Even⟩)], lookC [], lookC []⟩
theorem o_nat_Even : FOk Try.prog 118 s_nat_Even :=
 fn_of (Bt := blook []) (l := [(114, s_nat_Bits), (117, s_nat_Bit)]) (C := c_nat_Even) (by kernel_rfl) tab_ok ⟨o_nat_Bits, o_nat_Bit, trivial⟩ (fn := Try.f118) (by kernel_rfl) rfl (by kernel_rfl) (by decide) (by kernel_rfl) (F := fun k x => nat_Even.f k x.1) (m := m_nat_Even) (fun k x => rfl)
  (by
   refine And.intro ?_ ?_
   ·refine ob_loop (sl := q0_nat_Even) (F := g0_nat_Even) (fun x => rfl) fun k ⟨⟨(x0 : List Int), _⟩, ⟨(x7 : Int), _⟩, ⟨(x8 : Int), _⟩, _⟩ => ?_
    show LeT m_nat_Even (nat_Even.l0 (k + 1) x0 x7 x8) _
    rw [nat_Even.l0]; exact go
   exact trivial)
  (fun k ⟨(a0 : List Int), _⟩ => by show LeT m_nat_Even (nat_Even.f k a0) _; unfold nat_Even.f; exact go)
end
section
attribute [local irreducible] fbits_Inf.f fround_Word.f fround_made.f fround_even.f nat_Add.f nat_Shl.f nat_Of.f nat_Bits.f nat_Word.f nat_Shr.f nat_Bit.f nat_Even.f
def s_fround_Of : FSpec := ⟨[.bool, (.row 22 (.int .u64)), .int .i64, .bool], [.int .u64], fun k x => (fround_Of.f k x.1 x.2.1 x.2.2.1 x.2.2.2.1).map fun r => (r, ())⟩
def m_fround_Of (r : Int) : TT s_fround_Of.rs := (r, ())
@[reducible] def q0_fround_Of : List Slot := [.tmp 0 [.ty .bool], .tmp 1 [.ty (.row 22 (.int .u64))], .tmp 2 [.ty (.int .i64)]]
def g0_fround_Of (k : Nat) (x : TS q0_fround_Of) : Option (Int) := fround_Of.j0 k x.1.1 x.2.1.1 x.2.2.1.1
def c_fround_Of : Cuts (TT s_fround_Of.rs) := ⟨72, lookC [], lookC [(5, ⟨q0_fround_Of, fun k x => (g0_fround_Of k x).map m_fround_Of⟩)], lookC []⟩
theorem o_fround_Of : FOk Try.prog 63 s_fround_Of :=
 fn_of (Bt := blook []) (l := [(34, s_fbits_Inf), (36, s_fround_Word), (92, s_fround_made), (93, s_fround_even), (111, s_nat_Add), (112, s_nat_Shl), (113, s_nat_Of), (114, s_nat_Bits), (115, s_nat_Word), (116, s_nat_Shr), (117, s_nat_Bit), (118, s_nat_Even)]) (C := c_fround_Of) (by kernel_rfl) tab_ok ⟨o_fbits_Inf, o_fround_Word, o_fround_made, o_fround_even, o_nat_Add, o_nat_Shl, o_nat_Of, o_nat_Bits, o_nat_Word, o_nat_Shr, o_nat_Bit, o_nat_Even, trivial⟩ (fn := Try.f63) (by kernel_rfl) rfl (by kernel_rfl) (by decide) (by kernel_rfl) (F := fun k x => fround_Of.f k x.1 x.2.1 x.2.2.1 x.2.2.2.1) (m := m_fround_Of) (fun k x => rfl)
  (by
   refine And.intro ?_ ?_
   ·refine ob_join1 (sl := q0_fround_Of) (F := g0_fround_Of) (fun x => rfl) fun k ⟨⟨(x0 : Bool), _⟩, ⟨(x1 : List Int), _⟩, ⟨(x2 : Int), _⟩, _⟩ => ?_
    show LeT m_fround_Of (fround_Of.j0 (k + 1) x0 x1 x2) _
    rw [fround_Of.j0]; exact go
   exact trivial)
  (fun k ⟨(a0 : Bool), (a1 : List Int), (a2 : Int), (a3 : Bool), _⟩ => by show LeT m_fround_Of (fround_Of.f k a0 a1 a2 a3) _; unfold fround_Of.f; exact go)
end
section
def s_gradineref09_Signed : FSpec := ⟨[.bool, .int .u64], [.int .u64], fun _ x => (gradineref09_Signed.f x.1 x.2.1).map fun r => (r, ())⟩
def m_gradineref09_Signed (r : Int) : TT s_gradineref09_Signed.rs := (r, ())
theorem o_gradineref09_Signed : FOk Try.prog 91 s_gradineref09_Signed :=
 fn_of (Bt := blook []) (l := []) (C := noCuts) (by kernel_rfl) tab_ok trivial (fn := Try.f91) (by kernel_rfl) rfl (by kernel_rfl) (by decide) (by kernel_rfl) (F := fun k x => gradineref09_Signed.f x.1 x.2.1) (m := m_gradineref09_Signed) (fun k x => rfl)
  (by exact trivial)
  (fun k ⟨(a0 : Bool), (a1 : Int), _⟩ => by show LeT m_gradineref09_Signed (gradineref09_Signed.f a0 a1) _; unfold gradineref09_Signed.f; exact go)
end
section
attribute [local irreducible] gradineref09_Signed.f
def s_gradineref09_Make : FSpec := ⟨[.bool, .int .u64, .int .i64], [.int .u64, .bool], fun k x => (gradineref09_Make.f k x.1 x.2.1 x.2.2.1).map fun r => (r.1, r.2, ())⟩
def m_gradineref09_Make (r : Int × Bool) : TT s_gradineref09_Make.rs := (r.1, r.2, ())
@[reducible] def q0_gradineref09_Make : List Slot := [.tmp 0 [.ty .bool], .tmp 1 [.ty (.int .u64)], .tmp 2 [.ty (.int .i64)], .tmp 17 [.ty .bool]]
def g0_gradineref09_Make (k : Nat) (x : TS q0_gradineref09_Make) : Option (Int × Bool) := gradineref09_Make.j0 k x.1.1 x.2.1.1 x.2.2.1.1 x.2.2.2.1.1
@[reducible] def q1_gradineref09_Make : List Slot := [.tmp 0 [.ty .bool], .tmp 1 [.ty (.int .u64)], .tmp 2 [.ty (.int .i64)]]
def g1_gradineref09_Make (k : Nat) (x : TS q1_gradineref09_Make) : Option (Int × Bool) := gradineref09_Make.l0 k x.1.1 x.2.1.1 x.2.2.1.1
@[reducible] def q2_gradineref09_Make : List Slot := [.tmp 0 [.ty .bool], .tmp 1 [.ty (.int .u64)], .tmp 2 [.ty (.int .i64)], .tmp 30 [.ty .bool]]
def g2_gradineref09_Make (k : Nat) (x : TS q2_gradineref09_Make) : Option (Int × Bool) := gradineref09_Make.j2 k x.1.1 x.2.1.1 x.2.2.1.1 x.2.2.2.1.1
@[reducible] def q3_gradineref09_Make : List Slot := [.tmp 0 [.ty .bool], .tmp 1 [.ty (.int .u64)], .tmp 2 [.ty (.int .i64)]]
def g3_gradineref09_Make (k : Nat) (x : TS q3_gradineref09_Make) : Option (Int × Bool) := gradineref09_Make.j4 k x.1.1 x.2.1.1 x.2.2.1.1
@[reducible] def q4_gradineref09_Make : List Slot := [.tmp 0 [.ty .bool], .tmp 1 [.ty (.int .u64)], .tmp 2 [.ty (.int .i64)]]
def g4_gradineref09_Make (k : Nat) (x : TS q4_gradineref09_Make) : Option (Int × Bool) := gradineref09_Make.l1 k x.1.1 x.2.1.1 x.2.2.1.1
def c_gradineref09_Make : Cuts (TT s_gradineref09_Make.rs) := ⟨57, lookC [(0, ⟨q1_gradineref09_Make, fun k x => (g1_gradineref09_Make k x).map m_gradineref09_Make⟩), (1, ⟨q4_gradineref09_Make, fun k x => (g4_gradineref09_Make k x).map m_gradineref09_Make⟩)], lookC [(13, ⟨q3_gradineref09_Make, fun k x => (g3_gradineref09_Make k x).map m_gradineref09_Make⟩)], lookC [(3, ⟨q0_gradineref09_Make, fun k x => (g0_gradineref09_Make k x).map m_gradineref09_Make⟩), (8, ⟨q2_gradineref09_Make, fun k x => (g2_gradineref09_Make k x).map m_gradineref09_Make⟩)]⟩
theorem o_gradineref09_Make : FOk Try.prog 31 s_gradineref09_Make :=
 fn_of (Bt := blook []) (l := [(91, s_gradineref09_Signed)]) (C := c_gradineref09_Make) (by kernel_rfl) tab_ok ⟨o_gradineref09_Signed, trivial⟩ (fn := Try.f31) (by kernel_rfl) rfl (by kernel_rfl) (by decide) (by kernel_rfl) (F := fun k x => gradineref09_Make.f k x.1 x.2.1 x.2.2.1) (m := m_gradineref09_Make) (fun k x => rfl)
  (by
   refine And.intro ?_ ?_
   ·refine ob_join1 (sl := q0_gradineref09_Make) (F := g0_gradineref09_Make) (fun x => rfl) fun k ⟨⟨(x0 : Bool), _⟩, ⟨(x1 : Int), _⟩, ⟨(x2 : Int), _⟩, ⟨(x17 : Bool), _⟩, _⟩ => ?_
    show LeT m_gradineref09_Make (gradineref09_Make.j0 (k + 1) x0 x1 x2 x17) _
    rw [gradineref09_Make.j0]; exact go
   refine And.intro ?_ ?_
   ·refine ob_loop (sl := q1_gradineref09_Make) (F := g1_gradineref09_Make) (fun x => rfl) fun k ⟨⟨(x0 : Bool), _⟩, ⟨(x1 : Int), _⟩, ⟨(x2 : Int), _⟩, _⟩ => ?_
    show LeT m_gradineref09_Make (gradineref09_Make.l0 (k + 1) x0 x1 x2) _
    rw [gradineref09_Make.l0]; exact go
   refine And.intro ?_ ?_
   ·refine ob_join1 (sl := q2_gradineref09_Make) (F := g2_gradineref09_Make) (fun x => rfl) fun k ⟨⟨(x0 : Bool), _⟩, ⟨(x1 : Int), _⟩, ⟨(x2 : Int), _⟩, ⟨(x30 : Bool), _⟩, _⟩ => ?_
    show LeT m_gradineref09_Make (gradineref09_Make.j2 (k + 1) x0 x1 x2 x30) _
    rw [gradineref09_Make.j2]; exact go
   refine And.intro ?_ ?_
   ·refine ob_loop (sl := q4_gradineref09_Make) (F := g4_gradineref09_Make) (fun x => rfl) fun k ⟨⟨(x0 : Bool), _⟩, ⟨(x1 : Int), _⟩, ⟨(x2 : Int), _⟩, _⟩ => ?_
    show LeT m_gradineref09_Make (gradineref09_Make.l1 (k + 1) x0 x1 x2) _
    rw [gradineref09_Make.l1]; exact go
   refine And.intro ?_ ?_
   ·refine ob_join1 (sl := q3_gradineref09_Make) (F := g3_gradineref09_Make) (fun x => rfl) fun k ⟨⟨(x0 : Bool), _⟩, ⟨(x1 : Int), _⟩, ⟨(x2 : Int), _⟩, _⟩ => ?_
    show LeT m_gradineref09_Make (gradineref09_Make.j4 (k + 1) x0 x1 x2) _
    rw [gradineref09_Make.j4]; exact go
   exact trivial)
  (fun k ⟨(a0 : Bool), (a1 : Int), (a2 : Int), _⟩ => by show LeT m_gradineref09_Make (gradineref09_Make.f k a0 a1 a2) _; unfold gradineref09_Make.f; exact go)
end
section
attribute [local irreducible] gradineref09_Signed.f
def s_gradineref09_Inf : FSpec := ⟨[.bool], [.int .u64], fun _ x => (gradineref09_Inf.f x.1).map fun r => (r, ())⟩
def m_gradineref09_Inf (r : Int) : TT s_gradineref09_Inf.rs := (r, ())
theorem o_gradineref09_Inf : FOk Try.prog 35 s_gradineref09_Inf :=
 fn_of (Bt := blook []) (l := [(91, s_gradineref09_Signed)]) (C := noCuts) (by kernel_rfl) tab_ok ⟨o_gradineref09_Signed, trivial⟩ (fn := Try.f35) (by kernel_rfl) rfl (by kernel_rfl) (by decide) (by kernel_rfl) (F := fun k x => gradineref09_Inf.f x.1) (m := m_gradineref09_Inf) (fun k x => rfl)
  (by exact trivial)
  (fun k ⟨(a0 : Bool), _⟩ => by show LeT m_gradineref09_Inf (gradineref09_Inf.f a0) _; unfold gradineref09_Inf.f; exact go)
end
section
def s_gradineref02_Size : FSpec := ⟨[(.row 22 (.int .u64))], [.int .i64], fun k x => (gradineref02_Size.f k x.1).map fun r => (r, ())⟩
def m_gradineref02_Size (r : Int) : TT s_gradineref02_Size.rs := (r, ())
@[reducible] def q0_gradineref02_Size : List Slot := [.tmp 0 [.ty (.row 22 (.int .u64))], .tmp 3 [.ty (.int .i64)]]
def g0_gradineref02_Size (k : Nat) (x : TS q0_gradineref02_Size) : Option (Int) := gradineref02_Size.l0 k x.1.1 x.2.1.1
def c_gradineref02_Size : Cuts (TT s_gradineref02_Size.rs) := ⟨19, lookC [(0, ⟨q0_gradineref02_Size, fun k x => (g0_gradineref02_Size k x).map m_gradineref02_Size⟩)], lookC [], lookC []⟩
theorem o_gradineref02_Size : FOk Try.prog 134 s_gradineref02_Size :=
 fn_of (Bt := blook []) (l := []) (C := c_gradineref02_Size) (by kernel_rfl) tab_ok trivial (fn := Try.f134) (by kernel_rfl) rfl (by kernel_rfl) (by decide) (by kernel_rfl) (F := fun k x => gradineref02_Size.f k x.1) (m := m_gradineref02_Size) (fun k x => rfl)
  (by
   refine And.intro ?_ ?_
   ·refine ob_loop (sl := q0_gradineref02_Size) (F := g0_gradineref02_Size) (fun x => rfl) fun k ⟨⟨(x0 : List Int), _⟩, ⟨(x3 : Int), _⟩, _⟩ => ?_
    show LeT m_gradineref02_Size (gradineref02_Size.l0 (k + 1) x0 x3) _
    rw [gradineref02_Size.l0]; exact go
   exact trivial)
  (fun k ⟨(a0 : List Int), _⟩ => by show LeT m_gradineref02_Size (gradineref02_Size.f k a0) _; unfold gradineref02_Size.f; exact go)
end
section
attribute [local irreducible] gradineref02_Size.f
def s_gradineref02_Trim : FSpec := ⟨[(.row 22 (.int .u64))], [(.row 22 (.int .u64))], fun k x => (gradineref02_Trim.f k x.1).map fun r => (r, ())⟩
def m_gradineref02_Trim (r : List Int) : TT s_gradineref02_Trim.rs := (r, ())
@[reducible] def q0_gradineref02_Trim : List Slot := [.tmp 0 [.ty (.row 22 (.int .u64))], .tmp 3 [.own 3 22 (.int .u64)], .tmp 6 [.ty (.int .i64)], .tmp 7 [.ty (.int .i64)]]
def g0_gradineref02_Trim (k : Nat) (x : TS q0_gradineref02_Trim) : Option (List Int) := gradineref02_Trim.l0 k x.1.1 x.2.1.1 x.2.2.1.1 x.2.2.2.1.1
def c_gradineref02_Trim : Cuts (TT s_gradineref02_Trim.rs) := ⟨19, lookC [(0, ⟨q0_gradineref02_Trim, fun k x => (g0_gradineref02_Trim k x).map m_gradineref02_Trim⟩)], lookC [], lookC []⟩
theorem o_gradineref02_Trim : FOk Try.prog 140 s_gradineref02_Trim :=
 fn_of (Bt := blook []) (l := [(134, s_gradineref02_Size)]) (C := c_gradineref02_Trim) (by kernel_rfl) tab_ok ⟨o_gradineref02_Size, trivial⟩ (fn := Try.f140) (by kernel_rfl) rfl (by kernel_rfl) (by decide) (by kernel_rfl) (F := fun k x => gradineref02_Trim.f k x.1) (m := m_gradineref02_Trim) (fun k x => rfl)
  (by
   refine And.intro ?_ ?_
   ·refine ob_loop (sl := q0_gradineref02_Trim) (F := g0_gradineref02_Trim) (fun x => rfl) fun k ⟨⟨(x0 : List Int), _⟩, ⟨(x3 : List Int), _⟩, ⟨(x6 : Int), _⟩, ⟨(x7 : Int), _⟩, _⟩ => ?_
    show LeT m_gradineref02_Trim (gradineref02_Trim.l0 (k + 1) x0 x3 x6 x7) _
    rw [gradineref02_Trim.l0]; exact go
   exact trivial)
  (fun k ⟨(a0 : List Int), _⟩ => by show LeT m_gradineref02_Trim (gradineref02_Trim.f k a0) _; unfold gradineref02_Trim.f; exact go)
end
section
attribute [local irreducible] gradineref02_Trim.f
def s_gradineref02_Shl : FSpec := ⟨[(.row 22 (.int .u64)), .int .i64], [(.row 22 (.int .u64))], fun k x => (gradineref02_Shl.f k x.1 x.2.1).map fun r => (r, ())⟩
def m_gradineref02_Shl (r : List Int) : TT s_gradineref02_Shl.rs := (r, ())
@[reducible] def q0_gradineref02_Shl : List Slot := [.tmp 0 [.ty (.row 22 (.int .u64))], .tmp 1 [.ty (.int .i64)], .tmp 5 [.own 5 22 (.int .u64)], .tmp 13 [.ty (.int .i64)], .tmp 14 [.ty (.int .i64)]]
def g0_gradineref02_Shl (k : Nat) (x : TS q0_gradineref02_Shl) : Option (List Int) := match x with | ⟨⟨(x0 : List Int), _⟩, ⟨(x1 : Int), _⟩, ⟨(x5 : List Int), _⟩, ⟨(x13 : Int), _⟩, ⟨(x14 : Int), _⟩, _⟩ => if 0 ≤ x1 ∧ x1 ≤ 65536 then gradineref02_Shl.l0 k x0 x1 x5 x13 x14 else none
@[reducible] def q1_gradineref02_Shl : List Slot := [.tmp 0 [.ty (.row 22 (.int .u64))], .tmp 1 [.ty (.int .i64)], .tmp 5 [.own 5 22 (.int .u64)], .tmp 21 [.ty (.int .i64)], .tmp 22 [.ty (.int .i64)]]
def g1_gradineref02_Shl (k : Nat) (x : TS q1_gradineref02_Shl) : Option (List Int) := match x with | ⟨⟨(x0 : List Int), _⟩, ⟨(x1 : Int), _⟩, ⟨(x5 : List Int), _⟩, ⟨(x21 : Int), _⟩, ⟨(x22 : Int), _⟩, _⟩ => if 0 ≤ x1 ∧ x1 ≤ 65536 then gradineref02_Shl.l1 k x0 x1 x5 x21 x22 else none
@[reducible] def q2_gradineref02_Shl : List Slot := [.tmp 5 [.own 5 22 (.int .u64)], .tmp 7 [.ty (.int .u64)], .tmp 8 [.ty (.int .i64)]]
def g2_gradineref02_Shl (k : Nat) (x : TS q2_gradineref02_Shl) : Option (List Int) := match x with | ⟨⟨(x5 : List Int), _⟩, ⟨(x7 : Int), _⟩, ⟨(x8 : Int), _⟩, _⟩ => if 0 ≤ x7 ∧ x7 < 64 then gradineref02_Shl.l2 k x5 x7 x8 else none
def c_gradineref02_Shl : Cuts (TT s_gradineref02_Shl.rs) := ⟨78, lookC [(0, ⟨q0_gradineref02_Shl, fun k x => (g0_gradineref02_Shl k x).map m_gradineref02_Shl⟩), (1, ⟨q1_gradineref02_Shl, fun k x => (g1_gradineref02_Shl k x).map m_gradineref02_Shl⟩), (2, ⟨q2_gradineref02_Shl, fun k x => (g2_gradineref02_Shl k x).map m_gradineref02_Shl⟩)], lookC [], lookC []⟩
theorem o_gradineref02_Shl : FOk Try.prog 90 s_gradineref02_Shl :=
 fn_of (Bt := blook [(19, [0, 0, 0, 0, 12, 28, 0, 124, 0, 0, 512, 1792, 3840, 0, 8192, 32512, 65532, 131071, 262143])]) (l := [(140, s_gradineref02_Trim)]) (C := c_gradineref02_Shl) (by kernel_rfl) tab_ok ⟨o_gradineref02_Trim, trivial⟩ (fn := Try.f90) (by kernel_rfl) rfl (by kernel_rfl) (by decide) (by kernel_rfl) (F := fun k x => gradineref02_Shl.f k x.1 x.2.1) (m := m_gradineref02_Shl) (fun k x => rfl)
  (by
   refine And.intro ?_ ?_
   ·refine ob_loop (sl := q0_gradineref02_Shl) (F := g0_gradineref02_Shl) (fun ⟨⟨(x0 : List Int), _⟩, ⟨(x1 : Int), _⟩, ⟨(x5 : List Int), _⟩, ⟨(x13 : Int), _⟩, ⟨(x14 : Int), _⟩, _⟩ => by show (if 0 ≤ x1 ∧ x1 ≤ 65536 then gradineref02_Shl.l0 0 x0 x1 x5 x13 x14 else none) = none; split <;> rfl) fun k ⟨⟨(x0 : List Int), _⟩, ⟨(x1 : Int), _⟩, ⟨(x5 : List Int), _⟩, ⟨(x13 : Int), _⟩, ⟨(x14 : Int), _⟩, _⟩ => ?_
    show LeT m_gradineref02_Shl (if 0 ≤ x1 ∧ x1 ≤ 65536 then gradineref02_Shl.l0 (k + 1) x0 x1 x5 x13 x14 else none) _
    rw [gradineref02_Shl.l0]; exact go
   refine And.intro ?_ ?_
   ·refine ob_loop (sl := q1_gradineref02_Shl) (F := g1_gradineref02_Shl) (fun ⟨⟨(x0 : List Int), _⟩, ⟨(x1 : Int), _⟩, ⟨(x5 : List Int), _⟩, ⟨(x21 : Int), _⟩, ⟨(x22 : Int), _⟩, _⟩ => by show (if 0 ≤ x1 ∧ x1 ≤ 65536 then gradineref02_Shl.l1 0 x0 x1 x5 x21 x22 else none) = none; split <;> rfl) fun k ⟨⟨(x0 : List Int), _⟩, ⟨(x1 : Int), _⟩, ⟨(x5 : List Int), _⟩, ⟨(x21 : Int), _⟩, ⟨(x22 : Int), _⟩, _⟩ => ?_
    show LeT m_gradineref02_Shl (if 0 ≤ x1 ∧ x1 ≤ 65536 then gradineref02_Shl.l1 (k + 1) x0 x1 x5 x21 x22 else none) _
    rw [gradineref02_Shl.l1]; exact go
   refine And.intro ?_ ?_
   ·refine ob_loop (sl := q2_gradineref02_Shl) (F := g2_gradineref02_Shl) (fun ⟨⟨(x5 : List Int), _⟩, ⟨(x7 : Int), _⟩, ⟨(x8 : Int), _⟩, _⟩ => by show (if 0 ≤ x7 ∧ x7 < 64 then gradineref02_Shl.l2 0 x5 x7 x8 else none) = none; split <;> rfl) fun k ⟨⟨(x5 : List Int), _⟩, ⟨(x7 : Int), _⟩, ⟨(x8 : Int), _⟩, _⟩ => ?_
    show LeT m_gradineref02_Shl (if 0 ≤ x7 ∧ x7 < 64 then gradineref02_Shl.l2 (k + 1) x5 x7 x8 else none) _
    rw [gradineref02_Shl.l2]; exact go
   exact trivial)
  (fun k ⟨(a0 : List Int), (a1 : Int), _⟩ => by show LeT m_gradineref02_Shl (gradineref02_Shl.f k a0 a1) _; unfold gradineref02_Shl.f; exact go)
end
section
attribute [local irreducible] gradineref02_Trim.f
def s_gradineref02_Shr : FSpec := ⟨[(.row 22 (.int .u64)), .int .i64], [(.row 22 (.int .u64))], fun k x => (gradineref02_Shr.f k x.1 x.2.1).map fun r => (r, ())⟩
def m_gradineref02_Shr (r : List Int) : TT s_gradineref02_Shr.rs := (r, ())
@[reducible] def q0_gradineref02_Shr : List Slot := [.tmp 0 [.ty (.row 22 (.int .u64))], .tmp 1 [.ty (.int .i64)], .tmp 5 [.own 5 22 (.int .u64)], .tmp 6 [.ty (.int .i64)]]
def g0_gradineref02_Shr (k : Nat) (x : TS q0_gradineref02_Shr) : Option (List Int) := match x with | ⟨⟨(x0 : List Int), _⟩, ⟨(x1 : Int), _⟩, ⟨(x5 : List Int), _⟩, ⟨(x6 : Int), _⟩, _⟩ => if 0 ≤ x1 then gradineref02_Shr.l0 k x0 x1 x5 x6 else none
@[reducible] def q1_gradineref02_Shr : List Slot := [.tmp 5 [.own 5 22 (.int .u64)], .tmp 7 [.ty (.int .u64)], .tmp 35 [.ty (.int .i64)], .tmp 36 [.ty (.int .i64)]]
def g1_gradineref02_Shr (k : Nat) (x : TS q1_gradineref02_Shr) : Option (List Int) := match x with | ⟨⟨(x5 : List Int), _⟩, ⟨(x7 : Int), _⟩, ⟨(x35 : Int), _⟩, ⟨(x36 : Int), _⟩, _⟩ => if 0 ≤ x7 ∧ x7 < 64 then gradineref02_Shr.l1 k x5 x7 x35 x36 else none
def c_gradineref02_Shr : Cuts (TT s_gradineref02_Shr.rs) := ⟨72, lookC [(0, ⟨q0_gradineref02_Shr, fun k x => (g0_gradineref02_Shr k x).map m_gradineref02_Shr⟩), (1, ⟨q1_gradineref02_Shr, fun k x => (g1_gradineref02_Shr k x).map m_gradineref02_Shr⟩)], lookC [], lookC []⟩
theorem o_gradineref02_Shr : FOk Try.prog 100 s_gradineref02_Shr :=
 fn_of (Bt := blook [(15, [0, 0, 0, 0, 12, 28, 0, 0, 128, 448, 960, 0, 2048, 8128, 16380, 32767, 65535])]) (l := [(140, s_gradineref02_Trim)]) (C := c_gradineref02_Shr) (by kernel_rfl) tab_ok ⟨o_gradineref02_Trim, trivial⟩ (fn := Try.f100) (by kernel_rfl) rfl (by kernel_rfl) (by decide) (by kernel_rfl) (F := fun k x => gradineref02_Shr.f k x.1 x.2.1) (m := m_gradineref02_Shr) (fun k x => rfl)
  (by
   refine And.intro ?_ ?_
   ·refine ob_loop (sl := q0_gradineref02_Shr) (F := g0_gradineref02_Shr) (fun ⟨⟨(x0 : List Int), _⟩, ⟨(x1 : Int), _⟩, ⟨(x5 : List Int), _⟩, ⟨(x6 : Int), _⟩, _⟩ => by show (if 0 ≤ x1 then gradineref02_Shr.l0 0 x0 x1 x5 x6 else none) = none; split <;> rfl) fun k ⟨⟨(x0 : List Int), _⟩, ⟨(x1 : Int), _⟩, ⟨(x5 : List Int), _⟩, ⟨(x6 : Int), _⟩, _⟩ => ?_
    show LeT m_gradineref02_Shr (if 0 ≤ x1 then gradineref02_Shr.l0 (k + 1) x0 x1 x5 x6 else none) _
    rw [gradineref02_Shr.l0]; exact go
   refine And.intro ?_ ?_
   ·refine ob_loop (sl := q1_gradineref02_Shr) (F := g1_gradineref02_Shr) (fun ⟨⟨(x5 : List Int), _⟩, ⟨(x7 : Int), _⟩, ⟨(x35 : Int), _⟩, ⟨(x36 : Int), _⟩, _⟩ => by show (if 0 ≤ x7 ∧ x7 < 64 then gradineref02_Shr.l1 0 x5 x7 x35 x36 else none) = none; split <;> rfl) fun k ⟨⟨(x5 : List Int), _⟩, ⟨(x7 : Int), _⟩, ⟨(x35 : Int), _⟩, ⟨(x36 : Int), _⟩, _⟩ => ?_
    show LeT m_gradineref02_Shr (if 0 ≤ x7 ∧ x7 < 64 then gradineref02_Shr.l1 (k + 1) x5 x7 x35 x36 else none) _
    rw [gradineref02_Shr.l1]; exact go
   exact trivial)
  (fun k ⟨(a0 : List Int), (a1 : Int), _⟩ => by show LeT m_gradineref02_Shr (gradineref02_Shr.f k a0 a1) _; unfold gradineref02_Shr.f; exact go)
end
section
def s_gradineref01_Len : FSpec := ⟨[.int .u64], [.int .i64], fun k x => (gradineref01_Len.f k x.1).map fun r => (r, ())⟩
def m_gradineref01_Len (r : Int) : TT s_gradineref01_Len.rs := (r, ())
@[reducible] def q0_gradineref01_Len : List Slot := [.tmp 0 [.ty (.int .u64)], .tmp 3 [.ty (.int .i64)]]
def g0_gradineref01_Len (k : Nat) (x : TS q0_gradineref01_Len) : Option (Int) := gradineref01_Len.l0 k x.1.1 x.2.1.1
def c_gradineref01_Len : Cuts (TT s_gradineref01_Len.rs) := ⟨11, lookC [(0, ⟨q0_gradineref01_Len, fun k x => (g0_gradineref01_Len k x).map m_gradineref01_Len⟩)], lookC [], lookC []⟩
theorem o_gradineref01_Len : FOk Try.prog 142 s_gradineref01_Len :=
 fn_of (Bt := blook []) (l := []) (C := c_gradineref01_Len) (by kernel_rfl) tab_ok trivial (fn := Try.f142) (by kernel_rfl) rfl (by kernel_rfl) (by decide) (by kernel_rfl) (F := fun k x => gradineref01_Len.f k x.1) (m := m_gradineref01_Len) (fun k x => rfl)
  (by
   refine And.intro ?_ ?_
   ·refine ob_loop (sl := q0_gradineref01_Len) (F := g0_gradineref01_Len) (fun x => rfl) fun k ⟨⟨(x0 : Int), _⟩, ⟨(x3 : Int), _⟩, _⟩ => ?_
    show LeT m_gradineref01_Len (gradineref01_Len.l0 (k + 1) x0 x3) _
    rw [gradineref01_Len.l0]; exact go
   exact trivial)
  (fun k ⟨(a0 : Int), _⟩ => by show LeT m_gradineref01_Len (gradineref01_Len.f k a0) _; unfold gradineref01_Len.f; exact go)
end
section
attribute [local irreducible] gradineref02_Size.f gradineref01_Len.f
def s_gradineref02_Bits : FSpec := ⟨[(.row 22 (.int .u64))], [.int .i64], fun k x => (gradineref02_Bits.f k x.1).map fun r => (r, ())⟩
def m_gradineref02_Bits (r : Int) : TT s_gradineref02_Bits.rs := (r, ())
theorem o_gradineref02_Bits : FOk Try.prog 101 s_gradineref02_Bits :=
 fn_of (Bt := blook []) (l := [(134, s_gradineref02_Size), (142, s_gradineref01_Len)]) (C := noCuts) (by kernel_rfl) tab_ok ⟨o_gradineref02_Size, o_gradineref01_Len, trivial⟩ (fn := Try.f101) (by kernel_rfl) rfl (by kernel_rfl) (by decide) (by kernel_rfl) (F := fun k x => gradineref02_Bits.f k x.1) (m := m_gradineref02_Bits) (fun k x => rfl)
  (by exact trivial)
  (fun k ⟨(a0 : List Int), _⟩ => by show LeT m_gradineref02_Bits (gradineref02_Bits.f k a0) _; unfold gradineref02_Bits.f; exact go)
end
section
attribute [local irreducible] gradineref02_Trim.f
def s_gradineref02_Halves : FSpec := ⟨[(.row 22 (.int .u64))], [(.row 22 (.int .u64))], fun k x => (gradineref02_Halves.f k x.1).map fun r => (r, ())⟩
def m_gradineref02_Halves (r : List Int) : TT s_gradineref02_Halves.rs := (r, ())
@[reducible] def q0_gradineref02_Halves : List Slot := [.tmp 0 [.ty (.row 22 (.int .u64))], .tmp 3 [.own 3 22 (.int .u64)], .tmp 6 [.ty (.int .i64)], .tmp 7 [.ty (.int .i64)]]
def g0_gradineref02_Halves (k : Nat) (x : TS q0_gradineref02_Halves) : Option (List Int) := gradineref02_Halves.l0 k x.1.1 x.2.1.1 x.2.2.1.1 x.2.2.2.1.1
def c_gradineref02_Halves : Cuts (TT s_gradineref02_Halves.rs) := ⟨29, lookC [(0, ⟨q0_gradineref02_Halves, fun k x => (g0_gradineref02_Halves k x).map m_gradineref02_Halves⟩)], lookC [], lookC []⟩
theorem o_gradineref02_Halves : FOk Try.prog 143 s_gradineref02_Halves :=
 fn_of (Bt := blook []) (l := [(140, s_gradineref02_Trim)]) (C := c_gradineref02_Halves) (by kernel_rfl) tab_ok ⟨o_gradineref02_Trim, trivial⟩ (fn := Try.f143) (by kernel_rfl) rfl (by kernel_rfl) (by decide) (by kernel_rfl) (F := fun k x => gradineref02_Halves.f k x.1) (m := m_gradineref02_Halves) (fun k x => rfl)
  (by
   refine And.intro ?_ ?_
   ·refine ob_loop (sl := q0_gradineref02_Halves) (F := g0_gradineref02_Halves) (fun x => rfl) fun k ⟨⟨(x0 : List Int), _⟩, ⟨(x3 : List Int), _⟩, ⟨(x6 : Int), _⟩, ⟨(x7 : Int), _⟩, _⟩ => ?_
    show LeT m_gradineref02_Halves (gradineref02_Halves.l0 (k + 1) x0 x3 x6 x7) _
    rw [gradineref02_Halves.l0]; exact go
   exact trivial)
  (fun k ⟨(a0 : List Int), _⟩ => by show LeT m_gradineref02_Halves (gradineref02_Halves.f k a0) _; unfold gradineref02_Halves.f; exact go)
end
section
def s_gradineref02_at : FSpec := ⟨[(.row 22 (.int .u64)), .int .i64], [.int .u64], fun _ x => (gradineref02_at.f x.1 x.2.1).map fun r => (r, ())⟩
def m_gradineref02_at (r : Int) : TT s_gradineref02_at.rs := (r, ())
theorem o_gradineref02_at : FOk Try.prog 144 s_gradineref02_at :=
 fn_of (Bt := blook []) (l := []) (C := noCuts) (by kernel_rfl) tab_ok trivial (fn := Try.f144) (by kernel_rfl) rfl (by kernel_rfl) (by decide) (by kernel_rfl) (F := fun k x => gradineref02_at.f x.1 x.2.1) (m := m_gradineref02_at) (fun k x => rfl)
  (by exact trivial)
  (fun k ⟨(a0 : List Int), (a1 : Int), _⟩ => by show LeT m_gradineref02_at (gradineref02_at.f a0 a1) _; unfold gradineref02_at.f; exact go)
end
section
attribute [local irreducible] gradineref02_Trim.f
def s_gradineref02_Whole : FSpec := ⟨[(.row 22 (.int .u64))], [(.row 22 (.int .u64))], fun k x => (gradineref02_Whole.f k x.1).map fun r => (r, ())⟩
def m_gradineref02_Whole (r : List Int) : TT s_gradineref02_Whole.rs := (r, ())
@[reducible] def q0_gradineref02_Whole : List Slot := [.tmp 0 [.ty (.row 22 (.int .u64))], .tmp 3 [.own 3 22 (.int .u64)], .tmp 4 [.ty (.int .i64)]]
def g0_gradineref02_Whole (k : Nat) (x : TS q0_gradineref02_Whole) : Option (List Int) := gradineref02_Whole.l0 k x.1.1 x.2.1.1 x.2.2.1.1
def c_gradineref02_Whole : Cuts (TT s_gradineref02_Whole.rs) := ⟨35, lookC [(0, ⟨q0_gradineref02_Whole, fun k x => (g0_gradineref02_Whole k x).map m_gradineref02_Whole⟩)], lookC [], lookC []⟩
theorem o_gradineref02_Whole : FOk Try.prog 145 s_gradineref02_Whole :=
 fn_of (Bt := blook []) (l := [(140, s_gradineref02_Trim)]) (C := c_gradineref02_Whole) (by kernel_rfl) tab_ok ⟨o_gradineref02_Trim, trivial⟩ (fn := Try.f145) (by kernel_rfl) rfl (by kernel_rfl) (by decide) (by kernel_rfl) (F := fun k x => gradineref02_Whole.f k x.1) (m := m_gradineref02_Whole) (fun k x => rfl)
  (by
   refine And.intro ?_ ?_
   ·refine ob_loop (sl := q0_gradineref02_Whole) (F := g0_gradineref02_Whole) (fun x => rfl) fun k ⟨⟨(x0 : List Int), _⟩, ⟨(x3 : List Int), _⟩, ⟨(x4 : Int), _⟩, _⟩ => ?_
    show LeT m_gradineref02_Whole (gradineref02_Whole.l0 (k + 1) x0 x3 x4) _
    rw [gradineref02_Whole.l0]; exact go
   exact trivial)
  (fun k ⟨(a0 : List Int), _⟩ => by show LeT m_gradineref02_Whole (gradineref02_Whole.f k a0) _; unfold gradineref02_Whole.f; exact go)
end
section
attribute [local irreducible] gradineref02_Halves.f gradineref02_at.f gradineref02_Whole.f
def s_gradineref02_Sub : FSpec := ⟨[(.row 22 (.int .u64)), (.row 22 (.int .u64))], [(.row 22 (.int .u64))], fun k x => (gradineref02_Sub.f k x.1 x.2.1).map fun r => (r, ())⟩
def m_gradineref02_Sub (r : List Int) : TT s_gradineref02_Sub.rs := (r, ())
@[reducible] def q0_gradineref02_Sub : List Slot := [.tmp 5 [.ty (.row 22 (.int .u64))], .tmp 6 [.ty (.row 22 (.int .u64))], .tmp 7 [.own 7 22 (.int .u64)], .tmp 8 [.ty (.int .u64)], .tmp 16 [.ty (.int .i64)], .tmp 17 [.ty (.int .i64)]]
def g0_gradineref02_Sub (k : Nat) (x : TS q0_gradineref02_Sub) : Option (List Int) := gradineref02_Sub.l0 k x.1.1 x.2.1.1 x.2.2.1.1 x.2.2.2.1.1 x.2.2.2.2.1.1 x.2.2.2.2.2.1.1
def c_gradineref02_Sub : Cuts (TT s_gradineref02_Sub.rs) := ⟨42, lookC [(0, ⟨q0_gradineref02_Sub, fun k x => (g0_gradineref02_Sub k x).map m_gradineref02_Sub⟩)], lookC [], lookC []⟩
theorem o_gradineref02_Sub : FOk Try.prog 102 s_gradineref02_Sub :=
 fn_of (Bt := blook [(7, [0, 0, 3, 7, 15, 0, 0, 96, 255, 0, 1023, 2047])]) (l := [(143, s_gradineref02_Halves), (144, s_gradineref02_at), (145, s_gradineref02_Whole)]) (C := c_gradineref02_Sub) (by kernel_rfl) tab_ok ⟨o_gradineref02_Halves, o_gradineref02_at, o_gradineref02_Whole, trivial⟩ (fn := Try.f102) (by kernel_rfl) rfl (by kernel_rfl) (by decide) (by kernel_rfl) (F := fun k x => gradineref02_Sub.f k x.1 x.2.1) (m := m_gradineref02_Sub) (fun k x => rfl)
  (by
   refine And.intro ?_ ?_
   ·refine ob_loop (sl := q0_gradineref02_Sub) (F := g0_gradineref02_Sub) (fun x => rfl) fun k ⟨⟨(x5 : List Int), _⟩, ⟨(x6 : List Int), _⟩, ⟨(x7 : List Int), _⟩, ⟨(x8 : Int), _⟩, ⟨(x16 : Int), _⟩, ⟨(x17 : Int), _⟩, _⟩ => ?_
    show LeT m_gradineref02_Sub (gradineref02_Sub.l0 (k + 1) x5 x6 x7 x8 x16 x17) _
    rw [gradineref02_Sub.l0]; exact go
   exact trivial)
  (fun k ⟨(a0 : List Int), (a1 : List Int), _⟩ => by show LeT m_gradineref02_Sub (gradineref02_Sub.f k a0 a1) _; unfold gradineref02_Sub.f; exact go)
end
section
attribute [local irreducible] gradineref02_at.f
def s_gradineref02_Cmp : FSpec := ⟨[(.row 22 (.int .u64)), (.row 22 (.int .u64))], [.int .i64], fun k x => (gradineref02_Cmp.f k x.1 x.2.1).map fun r => (r, ())⟩
def m_gradineref02_Cmp (r : Int) : TT s_gradineref02_Cmp.rs := (r, ())
@[reducible] def q0_gradineref02_Cmp : List Slot := [.tmp 0 [.ty (.row 22 (.int .u64))], .tmp 1 [.ty (.row 22 (.int .u64))], .tmp 6 [.ty (.int .i64)]]
def g0_gradineref02_Cmp (k : Nat) (x : TS q0_gradineref02_Cmp) : Option (Int) := gradineref02_Cmp.l0 k x.1.1 x.2.1.1 x.2.2.1.1
def c_gradineref02_Cmp : Cuts (TT s_gradineref02_Cmp.rs) := ⟨32, lookC [(0, ⟨q0_gradineref02_Cmp, fun k x => (g0_gradineref02_Cmp k x).map m_gradineref02_Cmp⟩)], lookC [], lookC []⟩
theorem o_gradineref02_Cmp : FOk Try.prog 103 s_gradineref02_Cmp :=
 fn_of (Bt := blook []) (l := [(144, s_gradineref02_at)]) (C := c_gradineref02_Cmp) (by kernel_rfl) tab_ok ⟨o_gradineref02_at, trivial⟩ (fn := Try.f103) (by kernel_rfl) rfl (by kernel_rfl) (by decide) (by kernel_rfl) (F := fun k x => gradineref02_Cmp.f k x.1 x.2.1) (m := m_gradineref02_Cmp) (fun k x => rfl)
  (by
   refine And.intro ?_ ?_
   ·refine ob_loop (sl := q0_gradineref02_Cmp) (F := g0_gradineref02_Cmp) (fun x => rfl) fun k ⟨⟨(x0 : List Int), _⟩, ⟨(x1 : List Int), _⟩, ⟨(x6 : Int), _⟩, _⟩ => ?_
    show LeT m_gradineref02_Cmp (gradineref02_Cmp.l0 (k + 1) x0 x1 x6) _
    rw [gradineref02_Cmp.l0]; exact go
   exact trivial)
  (fun k ⟨(a0 : List Int), (a1 : List Int), _⟩ => by show LeT m_gradineref02_Cmp (gradineref02_Cmp.f k a0 a1) _; unfold gradineref02_Cmp.f; exact go)
end
section
attribute [local irreducible] gradineref02_Halves.f gradineref02_at.f gradineref02_Whole.f
def s_gradineref02_Add : FSpec := ⟨[(.row 22 (.int .u64)), (.row 22 (.int .u64))], [(.row 22 (.int .u64))], fun k x => (gradineref02_Add.f k x.1 x.2.1).map fun r => (r, ())⟩
def m_gradineref02_Add (r : List Int) : TT s_gradineref02_Add.rs := (r, ())
@[reducible] def q0_gradineref02_Add : List Slot := [.tmp 5 [.ty (.row 22 (.int .u64))], .tmp 6 [.ty (.row 22 (.int .u64))], .tmp 7 [.own 7 22 (.int .u64)], .tmp 8 [.ty (.int .u64)], .tmp 19 [.ty (.int .i64)], .tmp 20 [.ty (.int .i64)]]
def g0_gradineref02_Add (k : Nat) (x : TS q0_gradineref02_Add) : Option (List Int) := gradineref02_Add.l0 k x.1.1 x.2.1.1 x.2.2.1.1 x.2.2.2.1.1 x.2.2.2.2.1.1 x.2.2.2.2.2.1.1
def c_gradineref02_Add : Cuts (TT s_gradineref02_Add.rs) := ⟨42, lookC [(0, ⟨q0_gradineref02_Add, fun k x => (g0_gradineref02_Add k x).map m_gradineref02_Add⟩)], lookC [], lookC []⟩
theorem o_gradineref02_Add : FOk Try.prog 108 s_gradineref02_Add :=
 fn_of (Bt := blook []) (l := [(143, s_gradineref02_Halves), (144, s_gradineref02_at), (145, s_gradineref02_Whole)]) (C := c_gradineref02_Add) (by kernel_rfl) tab_ok ⟨o_gradineref02_Halves, o_gradineref02_at, o_gradineref02_Whole, trivial⟩ (fn := Try.f108) (by kernel_rfl) rfl (by kernel_rfl) (by decide) (by kernel_rfl) (F := fun k x => gradineref02_Add.f k x.1 x.2.1) (m := m_gradineref02_Add) (fun k x => rfl)
  (by
   refine And.intro ?_ ?_
   ·refine ob_loop (sl := q0_gradineref02_Add) (F := g0_gradineref02_Add) (fun x => rfl) fun k ⟨⟨(x5 : List Int), _⟩, ⟨(x6 : List Int), _⟩, ⟨(x7 : List Int), _⟩, ⟨(x8 : Int), _⟩, ⟨(x19 : Int), _⟩, ⟨(x20 : Int), _⟩, _⟩ => ?_
    show LeT m_gradineref02_Add (gradineref02_Add.l0 (k + 1) x5 x6 x7 x8 x19 x20) _
    rw [gradineref02_Add.l0]; exact go
   exact trivial)
  (fun k ⟨(a0 : List Int), (a1 : List Int), _⟩ => by show LeT m_gradineref02_Add (gradineref02_Add.f k a0 a1) _; unfold gradineref02_Add.f; exact go)
end
section
def s_gradineref02_Bit : FSpec := ⟨[(.row 22 (.int .u64)), .int .i64], [.bool], fun _ x => (gradineref02_Bit.f x.1 x.2.1).map fun r => (r, ())⟩
def m_gradineref02_Bit (r : Bool) : TT s_gradineref02_Bit.rs := (r, ())
theorem o_gradineref02_Bit : FOk Try.prog 141 s_gradineref02_Bit :=
 fn_of (Bt := blook []) (l := []) (C := noCuts) (by kernel_rfl) tab_ok trivial (fn := Try.f141) (by kernel_rfl) rfl (by kernel_rfl) (by decide) (by kernel_rfl) (F := fun k x => gradineref02_Bit.f x.1 x.2.1) (m := m_gradineref02_Bit) (fun k x => rfl)
  (by exact trivial)
  (fun k ⟨(a0 : List Int), (a1 : Int), _⟩ => by show LeT m_gradineref02_Bit (gradineref02_Bit.f a0 a1) _; unfold gradineref02_Bit.f; exact go)
end
section
attribute [local irreducible] gradineref09_Make.f gradineref09_Inf.f gradineref02_Shl.f gradineref09_Signed.f gradineref02_Shr.f gradineref02_Bits.f gradineref02_Sub.f gradineref02_Cmp.f gradineref02_Add.f gradineref02_Trim.f gradineref02_Bit.f
def s_gradineref10_Of : FSpec := ⟨[.bool, (.row 22 (.int .u64)), .int .i64], [.int .u64], fun k x => (gradineref10_Of.f k x.1 x.2.1 x.2.2.1).map fun r => (r, ())⟩
def m_gradineref10_Of (r : Int) : TT s_gradineref10_Of.rs := (r, ())
@[reducible] def q0_gradineref10_Of : List Slot := [.tmp 0 [.ty .bool], .tmp 8 [.ty (.int .i64)], .tmp 9 [.ty (.row 22 (.int .u64))]]
def g0_gradineref10_Of (k : Nat) (x : TS q0_gradineref10_Of) : Option (Int) := gradineref10_Of.j0 k x.1.1 x.2.1.1 x.2.2.1.1
@[reducible] def q1_gradineref10_Of : List Slot := [.tmp 0 [.ty .bool], .tmp 8 [.ty (.int .i64)], .tmp 12 [.ty (.int .u64)]]
def g1_gradineref10_Of (k : Nat) (x : TS q1_gradineref10_Of) : Option (Int) := gradineref10_Of.j1 k x.1.1 x.2.1.1 x.2.2.1.1
def c_gradineref10_Of : Cuts (TT s_gradineref10_Of.rs) := ⟨102, lookC [], lookC [(19, ⟨q0_gradineref10_Of, fun k x => (g0_gradineref10_Of k x).map m_gradineref10_Of⟩), (22, ⟨q1_gradineref10_Of, fun k x => (g1_gradineref10_Of k x).map m_gradineref10_Of⟩)], lookC []⟩
theorem o_gradineref10_Of : FOk Try.prog 94 s_gradineref10_Of :=
 fn_of (Bt := blook []) (l := [(31, s_gradineref09_Make), (35, s_gradineref09_Inf), (90, s_gradineref02_Shl), (91, s_gradineref09_Signed), (100, s_gradineref02_Shr), (101, s_gradineref02_Bits), (102, s_gradineref02_Sub), (103, s_gradineref02_Cmp), (108, s_gradineref02_Add), (140, s_gradineref02_Trim), (141, s_gradineref02_Bit)]) (C := c_gradineref10_Of) (by kernel_rfl) tab_ok ⟨o_gradineref09_Make, o_gradineref09_Inf, o_gradineref02_Shl, o_gradineref09_Signed, o_gradineref02_Shr, o_gradineref02_Bits, o_gradineref02_Sub, o_gradineref02_Cmp, o_gradineref02_Add, o_gradineref02_Trim, o_gradineref02_Bit, trivial⟩ (fn := Try.f94) (by kernel_rfl) rfl (by kernel_rfl) (by decide) (by kernel_rfl) (F := fun k x => gradineref10_Of.f k x.1 x.2.1 x.2.2.1) (m := m_gradineref10_Of) (fun k x => rfl)
  (by
   refine And.intro ?_ ?_
   ·refine ob_join1 (sl := q0_gradineref10_Of) (F := g0_gradineref10_Of) (fun x => rfl) fun k ⟨⟨(x0 : Bool), _⟩, ⟨(x8 : Int), _⟩, ⟨(x9 : List Int), _⟩, _⟩ => ?_
    show LeT m_gradineref10_Of (gradineref10_Of.j0 (k + 1) x0 x8 x9) _
    rw [gradineref10_Of.j0]; exact go
   refine And.intro ?_ ?_
   ·refine ob_join1 (sl := q1_gradineref10_Of) (F := g1_gradineref10_Of) (fun x => rfl) fun k ⟨⟨(x0 : Bool), _⟩, ⟨(x8 : Int), _⟩, ⟨(x12 : Int), _⟩, _⟩ => ?_
    show LeT m_gradineref10_Of (gradineref10_Of.j1 (k + 1) x0 x8 x12) _
    rw [gradineref10_Of.j1]; exact go
   exact trivial)
  (fun k ⟨(a0 : Bool), (a1 : List Int), (a2 : Int), _⟩ => by show LeT m_gradineref10_Of (gradineref10_Of.f k a0 a1 a2) _; unfold gradineref10_Of.f; exact go)
end
section
attribute [local irreducible] gradineref02_Shl.f gradineref02_Add.f
def s_gradineref10_Half : FSpec := ⟨[(.row 22 (.int .u64))], [(.row 22 (.int .u64))], fun k x => (gradineref10_Half.f k x.1).map fun r => (r, ())⟩
def m_gradineref10_Half (r : List Int) : TT s_gradineref10_Half.rs := (r, ())
theorem o_gradineref10_Half : FOk Try.prog 95 s_gradineref10_Half :=
 fn_of (Bt := blook []) (l := [(90, s_gradineref02_Shl), (108, s_gradineref02_Add)]) (C := noCuts) (by kernel_rfl) tab_ok ⟨o_gradineref02_Shl, o_gradineref02_Add, trivial⟩ (fn := Try.f95) (by kernel_rfl) rfl (by kernel_rfl) (by decide) (by kernel_rfl) (F := fun k x => gradineref10_Half.f k x.1) (m := m_gradineref10_Half) (fun k x => rfl)
  (by exact trivial)
  (fun k ⟨(a0 : List Int), _⟩ => by show LeT m_gradineref10_Half (gradineref10_Half.f k a0) _; unfold gradineref10_Half.f; exact go)
end
section
attribute [local irreducible] gradineref10_Of.f gradineref10_Half.f
def s_gradineref10_More : FSpec := ⟨[.bool, (.row 22 (.int .u64)), .int .i64, .bool], [.int .u64], fun k x => (gradineref10_More.f k x.1 x.2.1 x.2.2.1 x.2.2.2.1).map fun r => (r, ())⟩
def m_gradineref10_More (r : Int) : TT s_gradineref10_More.rs := (r, ())
theorem o_gradineref10_More : FOk Try.prog 37 s_gradineref10_More :=
 fn_of (Bt := blook []) (l := [(94, s_gradineref10_Of), (95, s_gradineref10_Half)]) (C := noCuts) (by kernel_rfl) tab_ok ⟨o_gradineref10_Of, o_gradineref10_Half, trivial⟩ (fn := Try.f37) (by kernel_rfl) rfl (by kernel_rfl) (by decide) (by kernel_rfl) (F := fun k x => gradineref10_More.f k x.1 x.2.1 x.2.2.1 x.2.2.2.1) (m := m_gradineref10_More) (fun k x => rfl)
  (by exact trivial)
  (fun k ⟨(a0 : Bool), (a1 : List Int), (a2 : Int), (a3 : Bool), _⟩ => by show LeT m_gradineref10_More (gradineref10_More.f k a0 a1 a2 a3) _; unfold gradineref10_More.f; exact go)
end
section
attribute [local irreducible] fround_Word.f fround_FromInt.f
def s_gradinelaw10_same : FSpec := ⟨[], [.bool], fun k _ => (gradinelaw10_same.f k).map fun r => (r, ())⟩
def m_gradinelaw10_same (r : Bool) : TT s_gradinelaw10_same.rs := (r, ())
theorem o_gradinelaw10_same : FOk Try.prog 38 s_gradinelaw10_same :=
 fn_of (Bt := blook []) (l := [(36, s_fround_Word), (64, s_fround_FromInt)]) (C := noCuts) (by kernel_rfl) tab_ok ⟨o_fround_Word, o_fround_FromInt, trivial⟩ (fn := Try.f38) (by kernel_rfl) rfl (by kernel_rfl) (by decide) (by kernel_rfl) (F := fun k x => gradinelaw10_same.f k) (m := m_gradinelaw10_same) (fun k x => rfl)
  (by exact trivial)
  (fun k x => by show LeT m_gradinelaw10_same (gradinelaw10_same.f k) _; unfold gradinelaw10_same.f; exact go)
end
section
attribute [local irreducible] gradineref02_Size.f gradineref02_Bit.f
def s_gradineref02_Even : FSpec := ⟨[(.row 22 (.int .u64))], [.int .i64], fun k x => (gradineref02_Even.f k x.1).map fun r => (r, ())⟩
def m_gradineref02_Even (r : Int) : TT s_gradineref02_Even.rs := (r, ())
@[reducible] def q0_gradineref02_Even : List Slot := [.tmp 0 [.ty (.row 22 (.int .u64))], .tmp 3 [.ty (.int .i64)]]
def g0_gradineref02_Even (k : Nat) (x : TS q0_gradineref02_Even) : Option (Int) := gradineref02_Even.l0 k x.1.1 x.2.1.1
def c_gradineref02_Even : Cuts (TT s_gradineref02_Even.rs) := ⟨14, lookC [(0, ⟨q0_gradineref02_Even, fun k x => (g0_gradineref02_Even k x).map m_gradineref02_Even⟩)], lookC [], lookC []⟩
theorem o_gradineref02_Even : FOk Try.prog 156 s_gradineref02_Even :=
 fn_of (Bt := blook []) (l := [(134, s_gradineref02_Size), (141, s_gradineref02_Bit)]) (C := c_gradineref02_Even) (by kernel_rfl) tab_ok ⟨o_gradineref02_Size, o_gradineref02_Bit, trivial⟩ (fn := Try.f156) (by kernel_rfl) rfl (by kernel_rfl) (by decide) (by kernel_rfl) (F := fun k x => gradineref02_Even.f k x.1) (m := m_gradineref02_Even) (fun k x => rfl)
  (by
   refine And.intro ?_ ?_
   ·refine ob_loop (sl := q0_gradineref02_Even) (F := g0_gradineref02_Even) (fun x => rfl) fun k ⟨⟨(x0 : List Int), _⟩, ⟨(x3 : Int), _⟩, _⟩ => ?_
    show LeT m_gradineref02_Even (gradineref02_Even.l0 (k + 1) x0 x3) _
    rw [gradineref02_Even.l0]; exact go
   exact trivial)
  (fun k ⟨(a0 : List Int), _⟩ => by show LeT m_gradineref02_Even (gradineref02_Even.f k a0) _; unfold gradineref02_Even.f; exact go)
end
section
attribute [local irreducible] gradineref02_Shl.f gradineref02_Shr.f gradineref02_Sub.f gradineref02_Cmp.f gradineref02_Size.f gradineref02_Trim.f gradineref02_Even.f
def s_gradineref05_Gcd : FSpec := ⟨[(.row 22 (.int .u64)), (.row 22 (.int .u64))], [(.row 22 (.int .u64))], fun k x => (gradineref05_Gcd.f k x.1 x.2.1).map fun r => (r, ())⟩
def m_gradineref05_Gcd (r : List Int) : TT s_gradineref05_Gcd.rs := (r, ())
@[reducible] def q0_gradineref05_Gcd : List Slot := [.tmp 0 [.ty (.row 22 (.int .u64))], .tmp 1 [.ty (.row 22 (.int .u64))], .tmp 28 [.ty .bool]]
def g0_gradineref05_Gcd (k : Nat) (x : TS q0_gradineref05_Gcd) : Option (List Int) := gradineref05_Gcd.j0 k x.1.1 x.2.1.1 x.2.2.1.1
@[reducible] def q1_gradineref05_Gcd : List Slot := [.tmp 5 [.ty (.int .u64)], .tmp 6 [.ty (.int .u64)]]
def g1_gradineref05_Gcd (k : Nat) (x : TS q1_gradineref05_Gcd) : Option (List Int) := gradineref05_Gcd.l0 k x.1.1 x.2.1.1
@[reducible] def q2_gradineref05_Gcd : List Slot := [.tmp 7 [.ty (.int .i64)], .tmp 8 [.ty (.row 22 (.int .u64))], .tmp 9 [.ty (.row 22 (.int .u64))]]
def g2_gradineref05_Gcd (k : Nat) (x : TS q2_gradineref05_Gcd) : Option (List Int) := gradineref05_Gcd.l1 k x.1.1 x.2.1.1 x.2.2.1.1
def c_gradineref05_Gcd : Cuts (TT s_gradineref05_Gcd.rs) := ⟨75, lookC [(0, ⟨q1_gradineref05_Gcd, fun k x => (g1_gradineref05_Gcd k x).map m_gradineref05_Gcd⟩), (1, ⟨q2_gradineref05_Gcd, fun k x => (g2_gradineref05_Gcd k x).map m_gradineref05_Gcd⟩)], lookC [], lookC [(5, ⟨q0_gradineref05_Gcd, fun k x => (g0_gradineref05_Gcd k x).map m_gradineref05_Gcd⟩)]⟩
theorem o_gradineref05_Gcd : FOk Try.prog 135 s_gradineref05_Gcd :=
 fn_of (Bt := blook [(6, [0, 1, 3, 0, 8, 24, 7, 127]), (8, [0, 0, 0, 6, 3, 31])]) (l := [(90, s_gradineref02_Shl), (100, s_gradineref02_Shr), (102, s_gradineref02_Sub), (103, s_gradineref02_Cmp), (134, s_gradineref02_Size), (140, s_gradineref02_Trim), (156, s_gradineref02_Even)]) (C := c_gradineref05_Gcd) (by kernel_rfl) tab_ok ⟨o_gradineref02_Shl, o_gradineref02_Shr, o_gradineref02_Sub, o_gradineref02_Cmp, o_gradineref02_Size, o_gradineref02_Trim, o_gradineref02_Even, trivial⟩ (fn := Try.f135) (by kernel_rfl) rfl (by kernel_rfl) (by decide) (by kernel_rfl) (F := fun k x => gradineref05_Gcd.f k x.1 x.2.1) (m := m_gradineref05_Gcd) (fun k x => rfl)
  (by
   refine And.intro ?_ ?_
   ·refine ob_join1 (sl := q0_gradineref05_Gcd) (F := g0_gradineref05_Gcd) (fun x => rfl) fun k ⟨⟨(x0 : List Int), _⟩, ⟨(x1 : List Int), _⟩, ⟨(x28 : Bool), _⟩, _⟩ => ?_
    show LeT m_gradineref05_Gcd (gradineref05_Gcd.j0 (k + 1) x0 x1 x28) _
    rw [gradineref05_Gcd.j0]; exact go
   refine And.intro ?_ ?_
   ·refine ob_loop (sl := q1_gradineref05_Gcd) (F := g1_gradineref05_Gcd) (fun x => rfl) fun k ⟨⟨(x5 : Int), _⟩, ⟨(x6 : Int), _⟩, _⟩ => ?_
    show LeT m_gradineref05_Gcd (gradineref05_Gcd.l0 (k + 1) x5 x6) _
    rw [gradineref05_Gcd.l0]; exact go
   refine And.intro ?_ ?_
   ·refine ob_loop (sl := q2_gradineref05_Gcd) (F := g2_gradineref05_Gcd) (fun x => rfl) fun k ⟨⟨(x7 : Int), _⟩, ⟨(x8 : List Int), _⟩, ⟨(x9 : List Int), _⟩, _⟩ => ?_
    show LeT m_gradineref05_Gcd (gradineref05_Gcd.l1 (k + 1) x7 x8 x9) _
    rw [gradineref05_Gcd.l1]; exact go
   exact trivial)
  (fun k ⟨(a0 : List Int), (a1 : List Int), _⟩ => by show LeT m_gradineref05_Gcd (gradineref05_Gcd.f k a0 a1) _; unfold gradineref05_Gcd.f; exact go)
end
section
def s_gradineref04_set : FSpec := ⟨[(.row 22 (.int .u64)), .int .i64], [(.row 22 (.int .u64))], fun k x => (gradineref04_set.f k x.1 x.2.1).map fun r => (r, ())⟩
def m_gradineref04_set (r : List Int) : TT s_gradineref04_set.rs := (r, ())
@[reducible] def q0_gradineref04_set : List Slot := [.tmp 0 [.ty (.row 22 (.int .u64))], .tmp 1 [.ty (.int .i64)], .tmp 5 [.own 5 22 (.int .u64)], .tmp 13 [.ty (.int .i64)], .tmp 14 [.ty (.int .i64)]]
def g0_gradineref04_set (k : Nat) (x : TS q0_gradineref04_set) : Option (List Int) := gradineref04_set.l0 k x.1.1 x.2.1.1 x.2.2.1.1 x.2.2.2.1.1 x.2.2.2.2.1.1
def c_gradineref04_set : Cuts (TT s_gradineref04_set.rs) := ⟨41, lookC [(0, ⟨q0_gradineref04_set, fun k x => (g0_gradineref04_set k x).map m_gradineref04_set⟩)], lookC [], lookC []⟩
theorem o_gradineref04_set : FOk Try.prog 151 s_gradineref04_set :=
 fn_of (Bt := blook []) (l := []) (C := c_gradineref04_set) (by kernel_rfl) tab_ok trivial (fn := Try.f151) (by kernel_rfl) rfl (by kernel_rfl) (by decide) (by kernel_rfl) (F := fun k x => gradineref04_set.f k x.1 x.2.1) (m := m_gradineref04_set) (fun k x => rfl)
  (by
   refine And.intro ?_ ?_
   ·refine ob_loop (sl := q0_gradineref04_set) (F := g0_gradineref04_set) (fun x => rfl) fun k ⟨⟨(x0 : List Int), _⟩, ⟨(x1 : Int), _⟩, ⟨(x5 : List Int), _⟩, ⟨(x13 : Int), _⟩, ⟨(x14 : Int), _⟩, _⟩ => ?_
    show LeT m_gradineref04_set (gradineref04_set.l0 (k + 1) x0 x1 x5 x13 x14) _
    rw [gradineref04_set.l0]; exact go
   exact trivial)
  (fun k ⟨(a0 : List Int), (a1 : Int), _⟩ => by show LeT m_gradineref04_set (gradineref04_set.f k a0 a1) _; unfold gradineref04_set.f; exact go)
end
section
attribute [local irreducible] gradineref02_Shl.f gradineref02_Shr.f gradineref02_Bits.f gradineref02_Sub.f gradineref02_Cmp.f gradineref02_Size.f gradineref02_Trim.f gradineref02_Bit.f gradineref04_set.f
def s_gradineref04_Div : FSpec := ⟨[(.row 22 (.int .u64)), (.row 22 (.int .u64))], [(.row 22 (.int .u64)), (.row 22 (.int .u64))], fun k x => (gradineref04_Div.f k x.1 x.2.1).map fun r => (r.1, r.2, ())⟩
def m_gradineref04_Div (r : List Int × List Int) : TT s_gradineref04_Div.rs := (r.1, r.2, ())
@[reducible] def q0_gradineref04_Div : List Slot := [.tmp 0 [.ty (.row 22 (.int .u64))], .tmp 1 [.ty (.row 22 (.int .u64))], .tmp 6 [.ty (.row 22 (.int .u64))], .tmp 18 [.ty .bool]]
def g0_gradineref04_Div (k : Nat) (x : TS q0_gradineref04_Div) : Option (List Int × List Int) := gradineref04_Div.j0 k x.1.1 x.2.1.1 x.2.2.1.1 x.2.2.2.1.1
@[reducible] def q1_gradineref04_Div : List Slot := [.tmp 0 [.ty (.row 22 (.int .u64))], .tmp 1 [.ty (.row 22 (.int .u64))], .tmp 6 [.ty (.row 22 (.int .u64))], .tmp 7 [.ty (.row 22 (.int .u64))], .tmp 10 [.ty (.int .i64)]]
def g1_gradineref04_Div (k : Nat) (x : TS q1_gradineref04_Div) : Option (List Int × List Int) := gradineref04_Div.l0 k x.1.1 x.2.1.1 x.2.2.1.1 x.2.2.2.1.1 x.2.2.2.2.1.1
@[reducible] def q2_gradineref04_Div : List Slot := [.tmp 0 [.ty (.row 22 (.int .u64))], .tmp 1 [.ty (.row 22 (.int .u64))], .tmp 6 [.ty (.row 22 (.int .u64))], .tmp 7 [.ty (.row 22 (.int .u64))], .tmp 10 [.ty (.int .i64)]]
def g2_gradineref04_Div (k : Nat) (x : TS q2_gradineref04_Div) : Option (List Int × List Int) := gradineref04_Div.j2 k x.1.1 x.2.1.1 x.2.2.1.1 x.2.2.2.1.1 x.2.2.2.2.1.1
def c_gradineref04_Div : Cuts (TT s_gradineref04_Div.rs) := ⟨75, lookC [(0, ⟨q1_gradineref04_Div, fun k x => (g1_gradineref04_Div k x).map m_gradineref04_Div⟩)], lookC [(13, ⟨q2_gradineref04_Div, fun k x => (g2_gradineref04_Div k x).map m_gradineref04_Div⟩)], lookC [(2, ⟨q0_gradineref04_Div, fun k x => (g0_gradineref04_Div k x).map m_gradineref04_Div⟩)]⟩
theorem o_gradineref04_Div : FOk Try.prog 139 s_gradineref04_Div :=
 fn_of (Bt := blook [(3, [0, 1, 3, 0, 8, 24, 63, 127, 255, 0, 512, 1536, 0, 4096, 12288, 32256, 65024, 131071, 262143, 524287])]) (l := [(90, s_gradineref02_Shl), (100, s_gradineref02_Shr), (101, s_gradineref02_Bits), (102, s_gradineref02_Sub), (103, s_gradineref02_Cmp), (134, s_gradineref02_Size), (140, s_gradineref02_Trim), (141, s_gradineref02_Bit), (151, s_gradineref04_set)]) (C := c_gradineref04_Div) (by kernel_rfl) tab_ok ⟨o_gradineref02_Shl, o_gradineref02_Shr, o_gradineref02_Bits, o_gradineref02_Sub, o_gradineref02_Cmp, o_gradineref02_Size, o_gradineref02_Trim, o_gradineref02_Bit, o_gradineref04_set, trivial⟩ (fn := Try.f139) (by kernel_rfl) rfl (by kernel_rfl) (by decide) (by kernel_rfl) (F := fun k x => gradineref04_Div.f k x.1 x.2.1) (m := m_gradineref04_Div) (fun k x => rfl)
  (by
   refine And.intro ?_ ?_
   ·refine ob_join1 (sl := q0_gradineref04_Div) (F := g0_gradineref04_Div) (fun x => rfl) fun k ⟨⟨(x0 : List Int), _⟩, ⟨(x1 : List Int), _⟩, ⟨(x6 : List Int), _⟩, ⟨(x18 : Bool), _⟩, _⟩ => ?_
    show LeT m_gradineref04_Div (gradineref04_Div.j0 (k + 1) x0 x1 x6 x18) _
    rw [gradineref04_Div.j0]; exact go
   refine And.intro ?_ ?_
   ·refine ob_loop (sl := q1_gradineref04_Div) (F := g1_gradineref04_Div) (fun x => rfl) fun k ⟨⟨(x0 : List Int), _⟩, ⟨(x1 : List Int), _⟩, ⟨(x6 : List Int), _⟩, ⟨(x7 : List Int), _⟩, ⟨(x10 : Int), _⟩, _⟩ => ?_
    show LeT m_gradineref04_Div (gradineref04_Div.l0 (k + 1) x0 x1 x6 x7 x10) _
    rw [gradineref04_Div.l0]; exact go
   refine And.intro ?_ ?_
   ·refine ob_join1 (sl := q2_gradineref04_Div) (F := g2_gradineref04_Div) (fun x => rfl) fun k ⟨⟨(x0 : List Int), _⟩, ⟨(x1 : List Int), _⟩, ⟨(x6 : List Int), _⟩, ⟨(x7 : List Int), _⟩, ⟨(x10 : Int), _⟩, _⟩ => ?_
    show LeT m_gradineref04_Div (gradineref04_Div.j2 (k + 1) x0 x1 x6 x7 x10) _
    rw [gradineref04_Div.j2]; exact go
   exact trivial)
  (fun k ⟨(a0 : List Int), (a1 : List Int), _⟩ => by show LeT m_gradineref04_Div (gradineref04_Div.f k a0 a1) _; unfold gradineref04_Div.f; exact go)
end
section
attribute [local irreducible] gradineref02_Cmp.f gradineref02_Size.f gradineref04_Div.f gradineref02_Trim.f
def s_gradineref05_Part : FSpec := ⟨[(.row 22 (.int .u64)), (.row 22 (.int .u64))], [(.row 22 (.int .u64))], fun k x => (gradineref05_Part.f k x.1 x.2.1).map fun r => (r, ())⟩
def m_gradineref05_Part (r : List Int) : TT s_gradineref05_Part.rs := (r, ())
theorem o_gradineref05_Part : FOk Try.prog 136 s_gradineref05_Part :=
 fn_of (Bt := blook []) (l := [(103, s_gradineref02_Cmp), (134, s_gradineref02_Size), (139, s_gradineref04_Div), (140, s_gradineref02_Trim)]) (C := noCuts) (by kernel_rfl) tab_ok ⟨o_gradineref02_Cmp, o_gradineref02_Size, o_gradineref04_Div, o_gradineref02_Trim, trivial⟩ (fn := Try.f136) (by kernel_rfl) rfl (by kernel_rfl) (by decide) (by kernel_rfl) (F := fun k x => gradineref05_Part.f k x.1 x.2.1) (m := m_gradineref05_Part) (fun k x => rfl)
  (by exact trivial)
  (fun k ⟨(a0 : List Int), (a1 : List Int), _⟩ => by show LeT m_gradineref05_Part (gradineref05_Part.f k a0 a1) _; unfold gradineref05_Part.f; exact go)
end
section
attribute [local irreducible] gradineref02_Size.f gradineref05_Gcd.f gradineref05_Part.f
def s_gradineref07_Make : FSpec := ⟨[.bool, (.row 22 (.int .u64)), (.row 22 (.int .u64))], [(.cons .bool (.cons (.row 22 (.int .u64)) (.row 22 (.int .u64))))], fun k x => (gradineref07_Make.f k x.1 x.2.1 x.2.2.1).map fun r => ((r.1, r.2.1, r.2.2), ())⟩
def m_gradineref07_Make (r : Bool × List Int × List Int) : TT s_gradineref07_Make.rs := ((r.1, r.2.1, r.2.2), ())
theorem o_gradineref07_Make : FOk Try.prog 81 s_gradineref07_Make :=
 fn_of (Bt := blook []) (l := [(134, s_gradineref02_Size), (135, s_gradineref05_Gcd), (136, s_gradineref05_Part)]) (C := noCuts) (by kernel_rfl) tab_ok ⟨o_gradineref02_Size, o_gradineref05_Gcd, o_gradineref05_Part, trivial⟩ (fn := Try.f81) (by kernel_rfl) rfl (by kernel_rfl) (by decide) (by kernel_rfl) (F := fun k x => gradineref07_Make.f k x.1 x.2.1 x.2.2.1) (m := m_gradineref07_Make) (fun k x => rfl)
  (by exact trivial)
  (fun k ⟨(a0 : Bool), (a1 : List Int), (a2 : List Int), _⟩ => by show LeT m_gradineref07_Make (gradineref07_Make.f k a0 a1 a2) _; unfold gradineref07_Make.f; exact go)
end
section
attribute [local irreducible] gradineref07_Make.f
def s_gradineref07_Of : FSpec := ⟨[.int .i64], [(.cons .bool (.cons (.row 22 (.int .u64)) (.row 22 (.int .u64))))], fun k x => (gradineref07_Of.f k x.1).map fun r => ((r.1, r.2.1, r.2.2), ())⟩
def m_gradineref07_Of (r : Bool × List Int × List Int) : TT s_gradineref07_Of.rs := ((r.1, r.2.1, r.2.2), ())
theorem o_gradineref07_Of : FOk Try.prog 119 s_gradineref07_Of :=
 fn_of (Bt := blook []) (l := [(81, s_gradineref07_Make)]) (C := noCuts) (by kernel_rfl) tab_ok ⟨o_gradineref07_Make, trivial⟩ (fn := Try.f119) (by kernel_rfl) rfl (by kernel_rfl) (by decide) (by kernel_rfl) (F := fun k x => gradineref07_Of.f k x.1) (m := m_gradineref07_Of) (fun k x => rfl)
  (by exact trivial)
  (fun k ⟨(a0 : Int), _⟩ => by show LeT m_gradineref07_Of (gradineref07_Of.f k a0) _; unfold gradineref07_Of.f; exact go)
end
section
attribute [local irreducible] gradineref10_Of.f gradineref07_Of.f
def s_gradineref10_FromInt : FSpec := ⟨[.int .i64], [.int .u64], fun k x => (gradineref10_FromInt.f k x.1).map fun r => (r, ())⟩
def m_gradineref10_FromInt (r : Int) : TT s_gradineref10_FromInt.rs := (r, ())
theorem o_gradineref10_FromInt : FOk Try.prog 65 s_gradineref10_FromInt :=
 fn_of (Bt := blook []) (l := [(94, s_gradineref10_Of), (119, s_gradineref07_Of)]) (C := noCuts) (by kernel_rfl) tab_ok ⟨o_gradineref10_Of, o_gradineref07_Of, trivial⟩ (fn := Try.f65) (by kernel_rfl) rfl (by kernel_rfl) (by decide) (by kernel_rfl) (F := fun k x => gradineref10_FromInt.f k x.1) (m := m_gradineref10_FromInt) (fun k x => rfl)
  (by exact trivial)
  (fun k ⟨(a0 : Int), _⟩ => by show LeT m_gradineref10_FromInt (gradineref10_FromInt.f k a0) _; unfold gradineref10_FromInt.f; exact go)
end
end Go.Proofs.Ytbpggonjcnakgaa.A
