/- Functions that come to what their texts say. -/
import Derived.Test.YtldcgclbgbhffaaProg
import Derived.Test.YtldcgclbgbhffaaWWb
import Derived.KernelRfl
import Derived.Test.YtldcgclbgbhffaaBnat
import Derived.Test.YtldcgclbgbhffaaBlimb
import Derived.Test.YtldcgclbgbhffaaBprod
import Derived.Test.YtldcgclbgbhffaaBdigit
import Derived.Test.YtldcgclbgbhffaaBquot
import Derived.Test.YtldcgclbgbhffaaBgcd
import Derived.Test.YtldcgclbgbhffaaBrat
import Derived.Test.YtldcgclbgbhffaaBgradineplain
import Derived.Test.YtldcgclbgbhffaaBgradineref02
import Derived.Test.YtldcgclbgbhffaaBgradineref05
import Derived.Test.YtldcgclbgbhffaaBgradineref07
import Derived.Test.YtldcgclbgbhffaaFgradinelaw08right
import Derived.Test.YtldcgclbgbhffaaBpower
import Derived.Test.YtldcgclbgbhffaaFgradinelaw08same
namespace Go.Proofs.Ytldcgclbgbhffaa.A
open Go.RowKit Go.Proofs.Ytldcgclbgbhffaa.P Go.Proofs.YtldcgclbgbhffaaW.PrintWords Go.Proofs.YtldcgclbgbhffaaW.PrintLast Go.Proofs.YtldcgclbgbhffaaW.PrintMore Go.Proofs.YtldcgclbgbhffaaW.Abs
set_option linter.unusedVariables false
set_option linter.unusedSimpArgs false
set_option maxRecDepth 100000
set_option maxHeartbeats 4000000
end Go.Proofs.Ytldcgclbgbhffaa.A
namespace Go.Proofs.Ytldcgclbgbhffaa.A
open Go.Proofs.YtldcgclbgbhffaaW.Abs
def tab : Tab := [(2, ⟨1, 8, [.ro (.int .i64) (0 : Int)], .int .i64, some (.int .i64)⟩),
 (3, ⟨1, 8, [.ro (.int .i64) (0 : Int)], .int .i64, some (.int .i64)⟩),
 (4, ⟨1, 1, [.ro .bool false], .bool, some .bool⟩),
 (5, ⟨1, 1, [.ro (.int .u8) (0 : Int)], .int .u8, some (.int .u8)⟩),
 (9, ⟨1, 16, [.ro .str (⟨#[]⟩ : ByteArray)], .str, some .str⟩),
 (13, ⟨2, 24, [.ro .str (⟨#[]⟩ : ByteArray), .ro (.int .u64) (0 : Int)], .struct [(0, 1), (1, 1)], some (.cons .str (.int .u64))⟩),
 (21, ⟨1, 4, [.ro (.int .i32) (0 : Int)], .int .i32, some (.int .i32)⟩),
 (22, ⟨1, 8, [.ro (.int .u64) (0 : Int)], .int .u64, some (.int .u64)⟩),
 (31, ⟨1, 24, [.nils], .slice 22, some (.row 22 (.int .u64))⟩),
 (48, ⟨1, 8, [.ro (.int .i64) (0 : Int)], .int .i64, some (.int .i64)⟩),
 (55, ⟨2, 16, [.ro (.int .u64) (0 : Int), .ro (.int .u64) (0 : Int)], .arr 2 22, none⟩),
 (65, ⟨3, 56, [.ro .bool false, .nils, .nils], .struct [(0, 1), (1, 1), (2, 1)], some (.cons .bool (.cons (.row 22 (.int .u64)) (.row 22 (.int .u64))))⟩),
 (66, ⟨3, 56, [.ro .bool false, .nils, .nils], .struct [(0, 1), (1, 1), (2, 1)], some (.cons .bool (.cons (.row 22 (.int .u64)) (.row 22 (.int .u64))))⟩),
 (91, ⟨1, 8, [.ro (.int .u64) (0 : Int)], .int .u64, some (.int .u64)⟩),
 (95, ⟨1, 24, [.nils], .slice 5, some (.row 5 (.int .u8))⟩),
 (116, ⟨1, 4, [.ro (.int .u32) (0 : Int)], .int .u32, some (.int .u32)⟩),
 (120, ⟨1, 8, [.nilp], .scal, none⟩)]
theorem tab_ok : Tab.ok Try.prog tab = true := by kernel_rfl
end Go.Proofs.Ytldcgclbgbhffaa.A
namespace Go.Proofs.Ytldcgclbgbhffaa.A
open Go.RowKit Go.Proofs.Ytldcgclbgbhffaa.P Go.Proofs.YtldcgclbgbhffaaW.PrintWords Go.Proofs.YtldcgclbgbhffaaW.PrintLast Go.Proofs.YtldcgclbgbhffaaW.PrintMore Go.Proofs.YtldcgclbgbhffaaW.Abs
set_option linter.unusedVariables false
set_option linter.unusedSimpArgs false
set_option maxRecDepth 100000
set_option maxHeartbeats 4000000
section
def s_nat_size : FSpec := ⟨[(.row 22 (.int .u64))], [.int .i64], fun k x => (nat_size.f k x.1).map fun r => (r, ())⟩
def m_nat_size (r : Int) : TT s_nat_size.rs := (r, ())
@[reducible] def q0_nat_size : List Slot := [.tmp 0 [.ty (.row 22 (.int .u64))], .tmp 3 [.ty (.int .i64)]]
def g0_nat_size (k : Nat) (x : TS q0_nat_size) : Option (Int) := nat_size.l0 k x.1.1 x.2.1.1
def c_nat_size : Cuts (TT s_nat_size.rs) := ⟨19, lookC [(0, ⟨q0_nat_size, fun k x => (g0_nat_size k x).map m_nat_size⟩)], lookC [], lookC []⟩
theorem o_nat_size : FOk Try.prog 140 s_nat_size :=
 fn_of (Bt := blook []) (l := []) (C := c_nat_size) (by kernel_rfl) tab_ok trivial (fn := Try.f140) (by kernel_rfl) rfl (by kernel_rfl) (by decide) (by kernel_rfl) (F := fun k x => nat_size.f k x.1) (m := m_nat_size) (fun k x => rfl)
  (by
   refine And.intro ?_ ?_
   ·refine ob_loop (sl := q0_nat_size) (F := g0_nat_size) (fun x => rfl) fun k ⟨⟨(x0 : List Int), _⟩, ⟨(x3 : Int), _⟩, _⟩ => ?_
    show LeT m_nat_size (nat_size.l0 (k + 1) x0 x3) _
    rw [nat_size.l0]; exact go
   exact trivial)
  (fun k ⟨(a0 : List Int), _⟩ => by show LeT m_nat_size (nat_size.f k a0) _; unfold nat_size.f; exact go)
end
section
attribute [local irreducible] nat_size.f
def s_nat_Trim : FSpec := ⟨[(.row 22 (.int .u64))], [(.row 22 (.int .u64))], fun k x => (nat_Trim.f k x.1).map fun r => (r, ())⟩
def m_nat_Trim (r : List Int) : TT s_nat_Trim.rs := (r, ())
theorem o_nat_Trim : FOk Try.prog 48 s_nat_Trim :=
 fn_of (Bt := blook []) (l := [(140, s_nat_size)]) (C := noCuts) (by kernel_rfl) tab_ok ⟨o_nat_size, trivial⟩ (fn := Try.f48) (by kernel_rfl) rfl (by kernel_rfl) (by decide) (by kernel_rfl) (F := fun k x => nat_Trim.f k x.1) (m := m_nat_Trim) (fun k x => rfl)
  (by exact trivial)
  (fun k ⟨(a0 : List Int), _⟩ => by show LeT m_nat_Trim (nat_Trim.f k a0) _; unfold nat_Trim.f; exact go)
end
section
def s_limb_Mul : FSpec := ⟨[.int .u64, .int .u64], [.int .u64, .int .u64], fun _ x => (limb_Mul.f x.1 x.2.1).map fun r => (r.1, r.2, ())⟩
def m_limb_Mul (r : Int × Int) : TT s_limb_Mul.rs := (r.1, r.2, ())
theorem o_limb_Mul : FOk Try.prog 33 s_limb_Mul :=
 fn_of (Bt := blook []) (l := []) (C := noCuts) (by kernel_rfl) tab_ok trivial (fn := Try.f33) (by kernel_rfl) rfl (by kernel_rfl) (by decide) (by kernel_rfl) (F := fun k x => limb_Mul.f x.1 x.2.1) (m := m_limb_Mul) (fun k x => rfl)
  (by exact trivial)
  (fun k ⟨(a0 : Int), (a1 : Int), _⟩ => by show LeT m_limb_Mul (limb_Mul.f a0 a1) _; unfold limb_Mul.f; exact go)
end
section
def s_limb_Add : FSpec := ⟨[.int .u64, .int .u64, .int .u64], [.int .u64, .int .u64], fun _ x => (limb_Add.f x.1 x.2.1 x.2.2.1).map fun r => (r.1, r.2, ())⟩
def m_limb_Add (r : Int × Int) : TT s_limb_Add.rs := (r.1, r.2, ())
theorem o_limb_Add : FOk Try.prog 40 s_limb_Add :=
 fn_of (Bt := blook []) (l := []) (C := noCuts) (by kernel_rfl) tab_ok trivial (fn := Try.f40) (by kernel_rfl) rfl (by kernel_rfl) (by decide) (by kernel_rfl) (F := fun k x => limb_Add.f x.1 x.2.1 x.2.2.1) (m := m_limb_Add) (fun k x => rfl)
  (by exact trivial)
  (fun k ⟨(a0 : Int), (a1 : Int), (a2 : Int), _⟩ => by show LeT m_limb_Add (limb_Add.f a0 a1 a2) _; unfold limb_Add.f; exact go)
end
section
attribute [local irreducible] limb_Mul.f limb_Add.f nat_Trim.f
def s_prod_Word : FSpec := ⟨[(.row 22 (.int .u64)), .int .u64, .int .u64], [(.row 22 (.int .u64))], fun k x => (prod_Word.f k x.1 x.2.1 x.2.2.1).map fun r => (r, ())⟩
def m_prod_Word (r : List Int) : TT s_prod_Word.rs := (r, ())
@[reducible] def q0_prod_Word : List Slot := [.tmp 1 [.ty (.int .u64)], .tmp 2 [.ty (.int .u64)], .tmp 7 [.own 7 22 (.int .u64)], .tmp 17 [.ty (.row 22 (.int .u64))], .tmp 18 [.ty (.int .i64)], .tmp 19 [.ty (.int .i64)]]
def g0_prod_Word (k : Nat) (x : TS q0_prod_Word) : Option (List Int) := prod_Word.l0 k x.1.1 x.2.1.1 x.2.2.1.1 x.2.2.2.1.1 x.2.2.2.2.1.1 x.2.2.2.2.2.1.1
def c_prod_Word : Cuts (TT s_prod_Word.rs) := ⟨48, lookC [(0, ⟨q0_prod_Word, fun k x => (g0_prod_Word k x).map m_prod_Word⟩)], lookC [], lookC []⟩
theorem o_prod_Word : FOk Try.prog 78 s_prod_Word :=
 fn_of (Bt := blook []) (l := [(33, s_limb_Mul), (40, s_limb_Add), (48, s_nat_Trim)]) (C := c_prod_Word) (by kernel_rfl) tab_ok ⟨o_limb_Mul, o_limb_Add, o_nat_Trim, trivial⟩ (fn := Try.f78) (by kernel_rfl) rfl (by kernel_rfl) (by decide) (by kernel_rfl) (F := fun k x => prod_Word.f k x.1 x.2.1 x.2.2.1) (m := m_prod_Word) (fun k x => rfl)
  (by
   refine And.intro ?_ ?_
   ·refine ob_loop (sl := q0_prod_Word) (F := g0_prod_Word) (fun x => rfl) fun k ⟨⟨(x1 : Int), _⟩, ⟨(x2 : Int), _⟩, ⟨(x7 : List Int), _⟩, ⟨(x17 : List Int), _⟩, ⟨(x18 : Int), _⟩, ⟨(x19 : Int), _⟩, _⟩ => ?_
    show LeT m_prod_Word (prod_Word.l0 (k + 1) x1 x2 x7 x17 x18 x19) _
    rw [prod_Word.l0]; exact go
   exact trivial)
  (fun k ⟨(a0 : List Int), (a1 : Int), (a2 : Int), _⟩ => by show LeT m_prod_Word (prod_Word.f k a0 a1 a2) _; unfold prod_Word.f; exact go)
end
section
def s_digit_value : FSpec := ⟨[.str], [.int .u64, .int .u64], fun k x => (digit_value.f k x.1).map fun r => (r.1, r.2, ())⟩
def m_digit_value (r : Int × Int) : TT s_digit_value.rs := (r.1, r.2, ())
@[reducible] def q0_digit_value : List Slot := [.tmp 0 [.ty .str], .tmp 4 [.ty (.int .u64)], .tmp 5 [.ty (.int .u64)], .tmp 8 [.ty (.int .i64)], .tmp 9 [.ty (.int .i64)]]
def g0_digit_value (k : Nat) (x : TS q0_digit_value) : Option (Int × Int) := digit_value.l0 k x.1.1 x.2.1.1 x.2.2.1.1 x.2.2.2.1.1 x.2.2.2.2.1.1
def c_digit_value : Cuts (TT s_digit_value.rs) := ⟨25, lookC [(0, ⟨q0_digit_value, fun k x => (g0_digit_value k x).map m_digit_value⟩)], lookC [], lookC []⟩
theorem o_digit_value : FOk Try.prog 146 s_digit_value :=
 fn_of (Bt := blook []) (l := []) (C := c_digit_value) (by kernel_rfl) tab_ok trivial (fn := Try.f146) (by kernel_rfl) rfl (by kernel_rfl) (by decide) (by kernel_rfl) (F := fun k x => digit_value.f k x.1) (m := m_digit_value) (fun k x => rfl)
  (by
   refine And.intro ?_ ?_
   ·refine ob_loop (sl := q0_digit_value) (F := g0_digit_value) (fun x => rfl) fun k ⟨⟨(x0 : ByteArray), _⟩, ⟨(x4 : Int), _⟩, ⟨(x5 : Int), _⟩, ⟨(x8 : Int), _⟩, ⟨(x9 : Int), _⟩, _⟩ => ?_
    show LeT m_digit_value (digit_value.l0 (k + 1) x0 x4 x5 x8 x9) _
    rw [digit_value.l0]; exact go
   exact trivial)
  (fun k ⟨(a0 : ByteArray), _⟩ => by show LeT m_digit_value (digit_value.f k a0) _; unfold digit_value.f; exact go)
end
section
attribute [local irreducible] nat_Trim.f prod_Word.f digit_value.f
def s_digit_Read : FSpec := ⟨[.str], [(.row 22 (.int .u64)), .int .i64], fun k x => (digit_Read.f k x.1).map fun r => (r.1, r.2, ())⟩
def m_digit_Read (r : List Int × Int) : TT s_digit_Read.rs := (r.1, r.2, ())
@[reducible] def q0_digit_Read : List Slot := [.tmp 0 [.ty .str], .tmp 23 [.ty .bool]]
def g0_digit_Read (k : Nat) (x : TS q0_digit_Read) : Option (List Int × Int) := digit_Read.j0 k x.1.1 x.2.1.1
@[reducible] def q1_digit_Read : List Slot := [.tmp 0 [.ty .str], .tmp 25 [.ty (.int .i64)], .tmp 26 [.ty (.int .i64)]]
def g1_digit_Read (k : Nat) (x : TS q1_digit_Read) : Option (List Int × Int) := digit_Read.l0 k x.1.1 x.2.1.1 x.2.2.1.1
@[reducible] def q2_digit_Read : List Slot := [.tmp 0 [.ty .str], .tmp 5 [.ty (.row 22 (.int .u64))], .tmp 6 [.ty (.int .i64)]]
def g2_digit_Read (k : Nat) (x : TS q2_digit_Read) : Option (List Int × Int) := digit_Read.l1 k x.1.1 x.2.1.1 x.2.2.1.1
def c_digit_Read : Cuts (TT s_digit_Read.rs) := ⟨64, lookC [(0, ⟨q1_digit_Read, fun k x => (g1_digit_Read k x).map m_digit_Read⟩), (1, ⟨q2_digit_Read, fun k x => (g2_digit_Read k x).map m_digit_Read⟩)], lookC [], lookC [(3, ⟨q0_digit_Read, fun k x => (g0_digit_Read k x).map m_digit_Read⟩)]⟩
theorem o_digit_Read : FOk Try.prog 73 s_digit_Read :=
 fn_of (Bt := blook []) (l := [(48, s_nat_Trim), (78, s_prod_Word), (146, s_digit_value)]) (C := c_digit_Read) (by kernel_rfl) tab_ok ⟨o_nat_Trim, o_prod_Word, o_digit_value, trivial⟩ (fn := Try.f73) (by kernel_rfl) rfl (by kernel_rfl) (by decide) (by kernel_rfl) (F := fun k x => digit_Read.f k x.1) (m := m_digit_Read) (fun k x => rfl)
  (by
   refine And.intro ?_ ?_
   ·refine ob_join1 (sl := q0_digit_Read) (F := g0_digit_Read) (fun x => rfl) fun k ⟨⟨(x0 : ByteArray), _⟩, ⟨(x23 : Bool), _⟩, _⟩ => ?_
    show LeT m_digit_Read (digit_Read.j0 (k + 1) x0 x23) _
    rw [digit_Read.j0]; exact go
   refine And.intro ?_ ?_
   ·refine ob_loop (sl := q1_digit_Read) (F := g1_digit_Read) (fun x => rfl) fun k ⟨⟨(x0 : ByteArray), _⟩, ⟨(x25 : Int), _⟩, ⟨(x26 : Int), _⟩, _⟩ => ?_
    show LeT m_digit_Read (digit_Read.l0 (k + 1) x0 x25 x26) _
    rw [digit_Read.l0]; exact go
   refine And.intro ?_ ?_
   ·refine ob_loop (sl := q2_digit_Read) (F := g2_digit_Read) (fun x => rfl) fun k ⟨⟨(x0 : ByteArray), _⟩, ⟨(x5 : List Int), _⟩, ⟨(x6 : Int), _⟩, _⟩ => ?_
    show LeT m_digit_Read (digit_Read.l1 (k + 1) x0 x5 x6) _
    rw [digit_Read.l1]; exact go
   exact trivial)
  (fun k ⟨(a0 : ByteArray), _⟩ => by show LeT m_digit_Read (digit_Read.f k a0) _; unfold digit_Read.f; exact go)
end
section
def s_digit_Show : FSpec := ⟨[(.row 22 (.int .u64))], [.str], fun k x => (digit_Show.f k x.1).map fun r => (r, ())⟩
theorem o_digit_Show : FOk Try.prog 75 s_digit_Show := ⟨by kernel_rfl, fun k x r h U w vs hU ha0 => by
 obtain ⟨r0, hr0, rfl⟩ := Option.map_eq_some_iff.mp h
 obtain ⟨cs0, vs0, rfl, q0, ha1⟩ := ha0.cons
 obtain ⟨A0, c0, rfl, C0, le0⟩ := row_arg q0
 obtain rfl : vs0 = [] := ha1
 refine (digit_Show.calls (k := k) (A0 := A0) (c0 := c0) (l0 := x.1) (hr0 := C0) (hc0 := le0) (r := r0) (w := w) (h := hr0)).mono ?_
 rintro e w' ⟨rfl, hb⟩
 exact ⟨_, rfl, ⟨[_], rfl, ⟨⟨[_], rfl, rfl⟩, rfl⟩⟩, hb⟩⟩
end
section
attribute [local irreducible] nat_size.f
def s_nat_Word : FSpec := ⟨[(.row 22 (.int .u64))], [.int .u64, .bool], fun k x => (nat_Word.f k x.1).map fun r => (r.1, r.2, ())⟩
def m_nat_Word (r : Int × Bool) : TT s_nat_Word.rs := (r.1, r.2, ())
theorem o_nat_Word : FOk Try.prog 51 s_nat_Word :=
 fn_of (Bt := blook []) (l := [(140, s_nat_size)]) (C := noCuts) (by kernel_rfl) tab_ok ⟨o_nat_size, trivial⟩ (fn := Try.f51) (by kernel_rfl) rfl (by kernel_rfl) (by decide) (by kernel_rfl) (F := fun k x => nat_Word.f k x.1) (m := m_nat_Word) (fun k x => rfl)
  (by exact trivial)
  (fun k ⟨(a0 : List Int), _⟩ => by show LeT m_nat_Word (nat_Word.f k a0) _; unfold nat_Word.f; exact go)
end
section
attribute [local irreducible] nat_Trim.f
def s_nat_Of : FSpec := ⟨[.int .u64], [(.row 22 (.int .u64))], fun k x => (nat_Of.f k x.1).map fun r => (r, ())⟩
def m_nat_Of (r : List Int) : TT s_nat_Of.rs := (r, ())
theorem o_nat_Of : FOk Try.prog 53 s_nat_Of :=
 fn_of (Bt := blook []) (l := [(48, s_nat_Trim)]) (C := noCuts) (by kernel_rfl) tab_ok ⟨o_nat_Trim, trivial⟩ (fn := Try.f53) (by kernel_rfl) rfl (by kernel_rfl) (by decide) (by kernel_rfl) (F := fun k x => nat_Of.f k x.1) (m := m_nat_Of) (fun k x => rfl)
  (by exact trivial)
  (fun k ⟨(a0 : Int), _⟩ => by show LeT m_nat_Of (nat_Of.f k a0) _; unfold nat_Of.f; exact go)
end
section
attribute [local irreducible] nat_size.f
def s_nat_Cmp : FSpec := ⟨[(.row 22 (.int .u64)), (.row 22 (.int .u64))], [.int .i64], fun k x => (nat_Cmp.f k x.1 x.2.1).map fun r => (r, ())⟩
def m_nat_Cmp (r : Int) : TT s_nat_Cmp.rs := (r, ())
@[reducible] def q0_nat_Cmp : List Slot := [.tmp 0 [.ty (.row 22 (.int .u64))], .tmp 1 [.ty (.row 22 (.int .u64))], .tmp 7 [.ty (.int .i64)]]
def g0_nat_Cmp (k : Nat) (x : TS q0_nat_Cmp) : Option (Int) := nat_Cmp.l0 k x.1.1 x.2.1.1 x.2.2.1.1
def c_nat_Cmp : Cuts (TT s_nat_Cmp.rs) := ⟨44, lookC [(0, ⟨q0_nat_Cmp, fun k x => (g0_nat_Cmp k x).map m_nat_Cmp⟩)], lookC [], lookC []⟩
theorem o_nat_Cmp : FOk Try.prog 56 s_nat_Cmp :=
 fn_of (Bt := blook [(9, [0, 0, 3, 7, 0, 0, 48, 112, 255, 511]), (11, [0, 0, 3, 7, 0, 0, 48, 112, 255, 511])]) (l := [(140, s_nat_size)]) (C := c_nat_Cmp) (by kernel_rfl) tab_ok ⟨o_nat_size, trivial⟩ (fn := Try.f56) (by kernel_rfl) rfl (by kernel_rfl) (by decide) (by kernel_rfl) (F := fun k x => nat_Cmp.f k x.1 x.2.1) (m := m_nat_Cmp) (fun k x => rfl)
  (by
   refine And.intro ?_ ?_
   ·refine ob_loop (sl := q0_nat_Cmp) (F := g0_nat_Cmp) (fun x => rfl) fun k ⟨⟨(x0 : List Int), _⟩, ⟨(x1 : List Int), _⟩, ⟨(x7 : Int), _⟩, _⟩ => ?_
    show LeT m_nat_Cmp (nat_Cmp.l0 (k + 1) x0 x1 x7) _
    rw [nat_Cmp.l0]; exact go
   exact trivial)
  (fun k ⟨(a0 : List Int), (a1 : List Int), _⟩ => by show LeT m_nat_Cmp (nat_Cmp.f k a0 a1) _; unfold nat_Cmp.f; exact go)
end
section
def s_limb_Len : FSpec := ⟨[.int .u64], [.int .i64], fun k x => (limb_Len.f k x.1).map fun r => (r, ())⟩
def m_limb_Len (r : Int) : TT s_limb_Len.rs := (r, ())
@[reducible] def q0_limb_Len : List Slot := [.tmp 0 [.ty (.int .u64)], .tmp 3 [.ty (.int .i64)], .tmp 4 [.ty (.int .i64)]]
def g0_limb_Len (k : Nat) (x : TS q0_limb_Len) : Option (Int) := limb_Len.l0 k x.1.1 x.2.1.1 x.2.2.1.1
def c_limb_Len : Cuts (TT s_limb_Len.rs) := ⟨23, lookC [(0, ⟨q0_limb_Len, fun k x => (g0_limb_Len k x).map m_limb_Len⟩)], lookC [], lookC []⟩
theorem o_limb_Len : FOk Try.prog 37 s_limb_Len :=
 fn_of (Bt := blook []) (l := []) (C := c_limb_Len) (by kernel_rfl) tab_ok trivial (fn := Try.f37) (by kernel_rfl) rfl (by kernel_rfl) (by decide) (by kernel_rfl) (F := fun k x => limb_Len.f k x.1) (m := m_limb_Len) (fun k x => rfl)
  (by
   refine And.intro ?_ ?_
   ·refine ob_loop (sl := q0_limb_Len) (F := g0_limb_Len) (fun x => rfl) fun k ⟨⟨(x0 : Int), _⟩, ⟨(x3 : Int), _⟩, ⟨(x4 : Int), _⟩, _⟩ => ?_
    show LeT m_limb_Len (limb_Len.l0 (k + 1) x0 x3 x4) _
    rw [limb_Len.l0]; exact go
   exact trivial)
  (fun k ⟨(a0 : Int), _⟩ => by show LeT m_limb_Len (limb_Len.f k a0) _; unfold limb_Len.f; exact go)
end
section
def s_limb_digit : FSpec := ⟨[.int .u64, .int .u64, .int .u64], [.int .u64, .int .u64], fun k x => (limb_digit.f k x.1 x.2.1 x.2.2.1).map fun r => (r.1, r.2, ())⟩
def m_limb_digit (r : Int × Int) : TT s_limb_digit.rs := (r.1, r.2, ())
@[reducible] def q0_limb_digit : List Slot := [.tmp 0 [.ty (.int .u64)], .tmp 1 [.ty (.int .u64)], .tmp 2 [.ty (.int .u64)], .tmp 8 [.ty (.int .u64)], .tmp 9 [.ty (.int .u64)], .tmp 10 [.ty (.int .u64)], .tmp 11 [.ty (.int .u64)]]
def g0_limb_digit (k : Nat) (x : TS q0_limb_digit) : Option (Int × Int) := limb_digit.l0 k x.1.1 x.2.1.1 x.2.2.1.1 x.2.2.2.1.1 x.2.2.2.2.1.1 x.2.2.2.2.2.1.1 x.2.2.2.2.2.2.1.1
@[reducible] def q1_limb_digit : List Slot := [.tmp 0 [.ty (.int .u64)], .tmp 1 [.ty (.int .u64)], .tmp 2 [.ty (.int .u64)], .tmp 8 [.ty (.int .u64)], .tmp 9 [.ty (.int .u64)], .tmp 10 [.ty (.int .u64)], .tmp 11 [.ty (.int .u64)], .tmp 33 [.ty .bool]]
def g1_limb_digit (k : Nat) (x : TS q1_limb_digit) : Option (Int × Int) := limb_digit.j1 k x.1.1 x.2.1.1 x.2.2.1.1 x.2.2.2.1.1 x.2.2.2.2.1.1 x.2.2.2.2.2.1.1 x.2.2.2.2.2.2.1.1 x.2.2.2.2.2.2.2.1.1
def c_limb_digit : Cuts (TT s_limb_digit.rs) := ⟨50, lookC [(0, ⟨q0_limb_digit, fun k x => (g0_limb_digit k x).map m_limb_digit⟩)], lookC [], lookC [(4, ⟨q1_limb_digit, fun k x => (g1_limb_digit k x).map m_limb_digit⟩)]⟩
theorem o_limb_digit : FOk Try.prog 139 s_limb_digit :=
 fn_of (Bt := blook []) (l := []) (C := c_limb_digit) (by kernel_rfl) tab_ok trivial (fn := Try.f139) (by kernel_rfl) rfl (by kernel_rfl) (by decide) (by kernel_rfl) (F := fun k x => limb_digit.f k x.1 x.2.1 x.2.2.1) (m := m_limb_digit) (fun k x => rfl)
  (by
   refine And.intro ?_ ?_
   ·refine ob_loop (sl := q0_limb_digit) (F := g0_limb_digit) (fun x => rfl) fun k ⟨⟨(x0 : Int), _⟩, ⟨(x1 : Int), _⟩, ⟨(x2 : Int), _⟩, ⟨(x8 : Int), _⟩, ⟨(x9 : Int), _⟩, ⟨(x10 : Int), _⟩, ⟨(x11 : Int), _⟩, _⟩ => ?_
    show LeT m_limb_digit (limb_digit.l0 (k + 1) x0 x1 x2 x8 x9 x10 x11) _
    rw [limb_digit.l0]; exact go
   refine And.intro ?_ ?_
   ·refine ob_join1 (sl := q1_limb_digit) (F := g1_limb_digit) (fun x => rfl) fun k ⟨⟨(x0 : Int), _⟩, ⟨(x1 : Int), _⟩, ⟨(x2 : Int), _⟩, ⟨(x8 : Int), _⟩, ⟨(x9 : Int), _⟩, ⟨(x10 : Int), _⟩, ⟨(x11 : Int), _⟩, ⟨(x33 : Bool), _⟩, _⟩ => ?_
    show LeT m_limb_digit (limb_digit.j1 (k + 1) x0 x1 x2 x8 x9 x10 x11 x33) _
    rw [limb_digit.j1]; exact go
   exact trivial)
  (fun k ⟨(a0 : Int), (a1 : Int), (a2 : Int), _⟩ => by show LeT m_limb_digit (limb_digit.f k a0 a1 a2) _; unfold limb_digit.f; exact go)
end
section
attribute [local irreducible] limb_Len.f limb_digit.f
def s_limb_Div : FSpec := ⟨[.int .u64, .int .u64, .int .u64], [.int .u64, .int .u64, .bool], fun k x => (limb_Div.f k x.1 x.2.1 x.2.2.1).map fun r => (r.1, r.2.1, r.2.2, ())⟩
def m_limb_Div (r : Int × Int × Bool) : TT s_limb_Div.rs := (r.1, r.2.1, r.2.2, ())
theorem o_limb_Div : FOk Try.prog 35 s_limb_Div :=
 fn_of (Bt := blook [(5, [0, 0, 3, 0, 8, 0, 32, 120, 255, 511]), (9, [0, 1, 0, 7, 0, 0, 48, 15, 255, 511])]) (l := [(37, s_limb_Len), (139, s_limb_digit)]) (C := noCuts) (by kernel_rfl) tab_ok ⟨o_limb_Len, o_limb_digit, trivial⟩ (fn := Try.f35) (by kernel_rfl) rfl (by kernel_rfl) (by decide) (by kernel_rfl) (F := fun k x => limb_Div.f k x.1 x.2.1 x.2.2.1) (m := m_limb_Div) (fun k x => rfl)
  (by exact trivial)
  (fun k ⟨(a0 : Int), (a1 : Int), (a2 : Int), _⟩ => by show LeT m_limb_Div (limb_Div.f k a0 a1 a2) _; unfold limb_Div.f; exact go)
end
section
attribute [local irreducible] limb_Div.f nat_Trim.f
def s_quot_Word : FSpec := ⟨[(.row 22 (.int .u64)), .int .u64], [(.row 22 (.int .u64)), .int .u64, .bool], fun k x => (quot_Word.f k x.1 x.2.1).map fun r => (r.1, r.2.1, r.2.2, ())⟩
def m_quot_Word (r : List Int × Int × Bool) : TT s_quot_Word.rs := (r.1, r.2.1, r.2.2, ())
@[reducible] def q0_quot_Word : List Slot := [.tmp 0 [.ty (.row 22 (.int .u64))], .tmp 1 [.ty (.int .u64)], .tmp 7 [.own 7 22 (.int .u64)], .tmp 8 [.ty (.int .u64)], .tmp 9 [.ty (.int .i64)]]
def g0_quot_Word (k : Nat) (x : TS q0_quot_Word) : Option (List Int × Int × Bool) := quot_Word.l0 k x.1.1 x.2.1.1 x.2.2.1.1 x.2.2.2.1.1 x.2.2.2.2.1.1
def c_quot_Word : Cuts (TT s_quot_Word.rs) := ⟨44, lookC [(0, ⟨q0_quot_Word, fun k x => (g0_quot_Word k x).map m_quot_Word⟩)], lookC [], lookC []⟩
theorem o_quot_Word : FOk Try.prog 82 s_quot_Word :=
 fn_of (Bt := blook []) (l := [(35, s_limb_Div), (48, s_nat_Trim)]) (C := c_quot_Word) (by kernel_rfl) tab_ok ⟨o_limb_Div, o_nat_Trim, trivial⟩ (fn := Try.f82) (by kernel_rfl) rfl (by kernel_rfl) (by decide) (by kernel_rfl) (F := fun k x => quot_Word.f k x.1 x.2.1) (m := m_quot_Word) (fun k x => rfl)
  (by
   refine And.intro ?_ ?_
   ·refine ob_loop (sl := q0_quot_Word) (F := g0_quot_Word) (fun x => rfl) fun k ⟨⟨(x0 : List Int), _⟩, ⟨(x1 : Int), _⟩, ⟨(x7 : List Int), _⟩, ⟨(x8 : Int), _⟩, ⟨(x9 : Int), _⟩, _⟩ => ?_
    show LeT m_quot_Word (quot_Word.l0 (k + 1) x0 x1 x7 x8 x9) _
    rw [quot_Word.l0]; exact go
   exact trivial)
  (fun k ⟨(a0 : List Int), (a1 : Int), _⟩ => by show LeT m_quot_Word (quot_Word.f k a0 a1) _; unfold quot_Word.f; exact go)
end
section
def s_quot_long : FSpec := ⟨[(.row 22 (.int .u64)), (.row 22 (.int .u64))], [(.row 22 (.int .u64)), (.row 22 (.int .u64))], fun k x => (quot_long.f k x.1 x.2.1).map fun r => (r.1, r.2, ())⟩
theorem o_quot_long : FOk Try.prog 150 s_quot_long := ⟨by kernel_rfl, fun k x r h U w vs hU ha0 => by
 obtain ⟨r0, hr0, rfl⟩ := Option.map_eq_some_iff.mp h
 obtain ⟨cs0, vs0, rfl, q0, ha1⟩ := ha0.cons
 obtain ⟨A0, c0, rfl, C0, le0⟩ := row_arg q0
 obtain ⟨cs1, vs1, rfl, q1, ha2⟩ := ha1.cons
 obtain ⟨A1, c1, rfl, C1, le1⟩ := row_arg q1
 obtain rfl : vs1 = [] := ha2
 refine (quot_long.calls (k := k) (A0 := A0) (c0 := c0) (l0 := x.1) (hr0 := C0) (hc0 := le0) (A1 := A1) (c1 := c1) (l1 := x.2.1) (hr1 := C1) (hc1 := le1) (r1 := r0.1) (r2 := r0.2) (w := w) (h := hr0)).mono ?_
 rintro e w' ⟨v0, v1, rfl, R0, R1, hb⟩
 exact ⟨_, rfl, ⟨[_, _], rfl, ⟨⟨_, rfl, row_res hU R0⟩, ⟨⟨_, rfl, row_res hU R1⟩, rfl⟩⟩⟩, hb⟩⟩
end
section
attribute [local irreducible] nat_Trim.f nat_Of.f nat_Cmp.f quot_Word.f quot_long.f
def s_quot_Div : FSpec := ⟨[(.row 22 (.int .u64)), (.row 22 (.int .u64))], [(.row 22 (.int .u64)), (.row 22 (.int .u64)), .bool], fun k x => (quot_Div.f k x.1 x.2.1).map fun r => (r.1, r.2.1, r.2.2, ())⟩
def m_quot_Div (r : List Int × List Int × Bool) : TT s_quot_Div.rs := (r.1, r.2.1, r.2.2, ())
theorem o_quot_Div : FOk Try.prog 81 s_quot_Div :=
 fn_of (Bt := blook []) (l := [(48, s_nat_Trim), (53, s_nat_Of), (56, s_nat_Cmp), (82, s_quot_Word), (150, s_quot_long)]) (C := noCuts) (by kernel_rfl) tab_ok ⟨o_nat_Trim, o_nat_Of, o_nat_Cmp, o_quot_Word, o_quot_long, trivial⟩ (fn := Try.f81) (by kernel_rfl) rfl (by kernel_rfl) (by decide) (by kernel_rfl) (F := fun k x => quot_Div.f k x.1 x.2.1) (m := m_quot_Div) (fun k x => rfl)
  (by exact trivial)
  (fun k ⟨(a0 : List Int), (a1 : List Int), _⟩ => by show LeT m_quot_Div (quot_Div.f k a0 a1) _; unfold quot_Div.f; exact go)
end
section
def s_gcd_words : FSpec := ⟨[.int .u64, .int .u64], [.int .u64], fun k x => (gcd_words.f k x.1 x.2.1).map fun r => (r, ())⟩
def m_gcd_words (r : Int) : TT s_gcd_words.rs := (r, ())
@[reducible] def q0_gcd_words : List Slot := [.tmp 0 [.ty (.int .u64)], .tmp 1 [.ty (.int .u64)]]
def g0_gcd_words (k : Nat) (x : TS q0_gcd_words) : Option (Int) := gcd_words.l0 k x.1.1 x.2.1.1
def c_gcd_words : Cuts (TT s_gcd_words.rs) := ⟨12, lookC [(0, ⟨q0_gcd_words, fun k x => (g0_gcd_words k x).map m_gcd_words⟩)], lookC [], lookC []⟩
theorem o_gcd_words : FOk Try.prog 152 s_gcd_words :=
 fn_of (Bt := blook [(2, [0, 0, 0, 6, 3, 31])]) (l := []) (C := c_gcd_words) (by kernel_rfl) tab_ok trivial (fn := Try.f152) (by kernel_rfl) rfl (by kernel_rfl) (by decide) (by kernel_rfl) (F := fun k x => gcd_words.f k x.1 x.2.1) (m := m_gcd_words) (fun k x => rfl)
  (by
   refine And.intro ?_ ?_
   ·refine ob_loop (sl := q0_gcd_words) (F := g0_gcd_words) (fun x => rfl) fun k ⟨⟨(x0 : Int), _⟩, ⟨(x1 : Int), _⟩, _⟩ => ?_
    show LeT m_gcd_words (gcd_words.l0 (k + 1) x0 x1) _
    rw [gcd_words.l0]; exact go
   exact trivial)
  (fun k ⟨(a0 : Int), (a1 : Int), _⟩ => by show LeT m_gcd_words (gcd_words.f k a0 a1) _; unfold gcd_words.f; exact go)
end
section
attribute [local irreducible] nat_Trim.f nat_Word.f nat_Of.f quot_Div.f quot_Word.f gcd_words.f
def s_gcd_Gcd : FSpec := ⟨[(.row 22 (.int .u64)), (.row 22 (.int .u64))], [(.row 22 (.int .u64))], fun k x => (gcd_Gcd.f k x.1 x.2.1).map fun r => (r, ())⟩
def m_gcd_Gcd (r : List Int) : TT s_gcd_Gcd.rs := (r, ())
@[reducible] def q0_gcd_Gcd : List Slot := [.tmp 0 [.ty (.row 22 (.int .u64))], .tmp 1 [.ty (.row 22 (.int .u64))]]
def g0_gcd_Gcd (k : Nat) (x : TS q0_gcd_Gcd) : Option (List Int) := gcd_Gcd.l0 k x.1.1 x.2.1.1
def c_gcd_Gcd : Cuts (TT s_gcd_Gcd.rs) := ⟨48, lookC [(0, ⟨q0_gcd_Gcd, fun k x => (g0_gcd_Gcd k x).map m_gcd_Gcd⟩)], lookC [], lookC []⟩
theorem o_gcd_Gcd : FOk Try.prog 86 s_gcd_Gcd :=
 fn_of (Bt := blook []) (l := [(48, s_nat_Trim), (51, s_nat_Word), (53, s_nat_Of), (81, s_quot_Div), (82, s_quot_Word), (152, s_gcd_words)]) (C := c_gcd_Gcd) (by kernel_rfl) tab_ok ⟨o_nat_Trim, o_nat_Word, o_nat_Of, o_quot_Div, o_quot_Word, o_gcd_words, trivial⟩ (fn := Try.f86) (by kernel_rfl) rfl (by kernel_rfl) (by decide) (by kernel_rfl) (F := fun k x => gcd_Gcd.f k x.1 x.2.1) (m := m_gcd_Gcd) (fun k x => rfl)
  (by
   refine And.intro ?_ ?_
   ·refine ob_loop (sl := q0_gcd_Gcd) (F := g0_gcd_Gcd) (fun x => rfl) fun k ⟨⟨(x0 : List Int), _⟩, ⟨(x1 : List Int), _⟩, _⟩ => ?_
    show LeT m_gcd_Gcd (gcd_Gcd.l0 (k + 1) x0 x1) _
    rw [gcd_Gcd.l0]; exact go
   exact trivial)
  (fun k ⟨(a0 : List Int), (a1 : List Int), _⟩ => by show LeT m_gcd_Gcd (gcd_Gcd.f k a0 a1) _; unfold gcd_Gcd.f; exact go)
end
section
attribute [local irreducible] quot_Div.f gcd_Gcd.f
def s_gcd_Reduce : FSpec := ⟨[(.row 22 (.int .u64)), (.row 22 (.int .u64))], [(.row 22 (.int .u64)), (.row 22 (.int .u64))], fun k x => (gcd_Reduce.f k x.1 x.2.1).map fun r => (r.1, r.2, ())⟩
def m_gcd_Reduce (r : List Int × List Int) : TT s_gcd_Reduce.rs := (r.1, r.2, ())
theorem o_gcd_Reduce : FOk Try.prog 92 s_gcd_Reduce :=
 fn_of (Bt := blook []) (l := [(81, s_quot_Div), (86, s_gcd_Gcd)]) (C := noCuts) (by kernel_rfl) tab_ok ⟨o_quot_Div, o_gcd_Gcd, trivial⟩ (fn := Try.f92) (by kernel_rfl) rfl (by kernel_rfl) (by decide) (by kernel_rfl) (F := fun k x => gcd_Reduce.f k x.1 x.2.1) (m := m_gcd_Reduce) (fun k x => rfl)
  (by exact trivial)
  (fun k ⟨(a0 : List Int), (a1 : List Int), _⟩ => by show LeT m_gcd_Reduce (gcd_Reduce.f k a0 a1) _; unfold gcd_Reduce.f; exact go)
end
section
def s_rat_one : FSpec := ⟨[], [(.row 22 (.int .u64))], fun _ _ => (rat_one.f).map fun r => (r, ())⟩
def m_rat_one (r : List Int) : TT s_rat_one.rs := (r, ())
theorem o_rat_one : FOk Try.prog 155 s_rat_one :=
 fn_of (Bt := blook []) (l := []) (C := noCuts) (by kernel_rfl) tab_ok trivial (fn := Try.f155) (by kernel_rfl) rfl (by kernel_rfl) (by decide) (by kernel_rfl) (F := fun k x => rat_one.f) (m := m_rat_one) (fun k x => rfl)
  (by exact trivial)
  (fun k x => by show LeT m_rat_one (rat_one.f) _; unfold rat_one.f; exact go)
end
section
attribute [local irreducible] nat_Of.f rat_one.f
def s_rat_Of : FSpec := ⟨[.int .i64], [(.cons .bool (.cons (.row 22 (.int .u64)) (.row 22 (.int .u64))))], fun k x => (rat_Of.f k x.1).map fun r => ((r.1, r.2.1, r.2.2), ())⟩
def m_rat_Of (r : Bool × List Int × List Int) : TT s_rat_Of.rs := ((r.1, r.2.1, r.2.2), ())
theorem o_rat_Of : FOk Try.prog 103 s_rat_Of :=
 fn_of (Bt := blook []) (l := [(53, s_nat_Of), (155, s_rat_one)]) (C := noCuts) (by kernel_rfl) tab_ok ⟨o_nat_Of, o_rat_one, trivial⟩ (fn := Try.f103) (by kernel_rfl) rfl (by kernel_rfl) (by decide) (by kernel_rfl) (F := fun k x => rat_Of.f k x.1) (m := m_rat_Of) (fun k x => rfl)
  (by exact trivial)
  (fun k ⟨(a0 : Int), _⟩ => by show LeT m_rat_Of (rat_Of.f k a0) _; unfold rat_Of.f; exact go)
end
section
def s_rat_Same : FSpec := ⟨[(.cons .bool (.cons (.row 22 (.int .u64)) (.row 22 (.int .u64)))), (.cons .bool (.cons (.row 22 (.int .u64)) (.row 22 (.int .u64))))], [.bool], fun k x => (rat_Same.f k x.1.1 x.1.2.1 x.1.2.2 x.2.1.1 x.2.1.2.1 x.2.1.2.2).map fun r => (r, ())⟩
theorem o_rat_Same : FOk Try.prog 106 s_rat_Same := ⟨by kernel_rfl, fun k x r h U w vs hU ha0 => by
 obtain ⟨r0, hr0, rfl⟩ := Option.map_eq_some_iff.mp h
 obtain ⟨cs0, vs0, rfl, q0, ha1⟩ := ha0.cons
 obtain ⟨cq00, cq00r, rfl, q00, q00r⟩ := q0
 obtain rfl := (show _ = [Value.bool (x.1.1)] from q00)
 obtain ⟨cq00r1, cq00r1r, rfl, q00r1, q00r1r⟩ := q00r
 obtain ⟨A0_1, c0_1, rfl, C0_1, le0_1⟩ := row_arg q00r1
 obtain ⟨A0_2, c0_2, rfl, C0_2, le0_2⟩ := row_arg q00r1r
 obtain ⟨cs1, vs1, rfl, q1, ha2⟩ := ha1.cons
 obtain ⟨cq10, cq10r, rfl, q10, q10r⟩ := q1
 obtain rfl := (show _ = [Value.bool (x.2.1.1)] from q10)
 obtain ⟨cq10r1, cq10r1r, rfl, q10r1, q10r1r⟩ := q10r
 obtain ⟨A1_1, c1_1, rfl, C1_1, le1_1⟩ := row_arg q10r1
 obtain ⟨A1_2, c1_2, rfl, C1_2, le1_2⟩ := row_arg q10r1r
 obtain rfl : vs1 = [] := ha2
 refine (rat_Same.calls (k := k) (a0_0 := x.1.1) (A0_1 := A0_1) (c0_1 := c0_1) (l0_1 := x.1.2.1) (hr0_1 := C0_1) (hc0_1 := le0_1) (A0_2 := A0_2) (c0_2 := c0_2) (l0_2 := x.1.2.2) (hr0_2 := C0_2) (hc0_2 := le0_2) (a1_0 := x.2.1.1) (A1_1 := A1_1) (c1_1 := c1_1) (l1_1 := x.2.1.2.1) (hr1_1 := C1_1) (hc1_1 := le1_1) (A1_2 := A1_2) (c1_2 := c1_2) (l1_2 := x.2.1.2.2) (hr1_2 := C1_2) (hc1_2 := le1_2) (r := r0) (w := w) (h := hr0)).mono ?_
 rintro e w' ⟨rfl, hb⟩
 exact ⟨_, rfl, ⟨[_], rfl, ⟨⟨[_], rfl, rfl⟩, rfl⟩⟩, hb⟩⟩
end
section
attribute [local irreducible] limb_Add.f nat_Trim.f
def s_nat_Add : FSpec := ⟨[(.row 22 (.int .u64)), (.row 22 (.int .u64))], [(.row 22 (.int .u64))], fun k x => (nat_Add.f k x.1 x.2.1).map fun r => (r, ())⟩
def m_nat_Add (r : List Int) : TT s_nat_Add.rs := (r, ())
@[reducible] def q0_nat_Add : List Slot := [.tmp 1 [.ty (.row 22 (.int .u64))], .tmp 5 [.own 5 22 (.int .u64)], .tmp 6 [.ty (.int .u64)], .tmp 21 [.ty (.row 22 (.int .u64))], .tmp 22 [.ty (.int .i64)], .tmp 23 [.ty (.int .i64)]]
def g0_nat_Add (k : Nat) (x : TS q0_nat_Add) : Option (List Int) := nat_Add.l0 k x.1.1 x.2.1.1 x.2.2.1.1 x.2.2.2.1.1 x.2.2.2.2.1.1 x.2.2.2.2.2.1.1
def c_nat_Add : Cuts (TT s_nat_Add.rs) := ⟨53, lookC [(0, ⟨q0_nat_Add, fun k x => (g0_nat_Add k x).map m_nat_Add⟩)], lookC [], lookC []⟩
theorem e_nat_Add_l1 : nat_Add.l1 = nat_Add.l0 := by
 funext k
 induction k with
 | zero => rfl
 | succ k ih => funext x0 x1 x2 x3 x4 x5; simp only [nat_Add.l1, nat_Add.l0, ih]
theorem o_nat_Add : FOk Try.prog 63 s_nat_Add :=
 fn_of (Bt := blook []) (l := [(40, s_limb_Add), (48, s_nat_Trim)]) (C := c_nat_Add) (by kernel_rfl) tab_ok ⟨o_limb_Add, o_nat_Trim, trivial⟩ (fn := Try.f63) (by kernel_rfl) rfl (by kernel_rfl) (by decide) (by kernel_rfl) (F := fun k x => nat_Add.f k x.1 x.2.1) (m := m_nat_Add) (fun k x => rfl)
  (by
   refine And.intro ?_ ?_
   ·refine ob_loop (sl := q0_nat_Add) (F := g0_nat_Add) (fun x => rfl) fun k ⟨⟨(x1 : List Int), _⟩, ⟨(x5 : List Int), _⟩, ⟨(x6 : Int), _⟩, ⟨(x21 : List Int), _⟩, ⟨(x22 : Int), _⟩, ⟨(x23 : Int), _⟩, _⟩ => ?_
    show LeT m_nat_Add (nat_Add.l0 (k + 1) x1 x5 x6 x21 x22 x23) _
    rw [nat_Add.l0]; (try simp only [e_nat_Add_l1]); exact go
   exact trivial)
  (fun k ⟨(a0 : List Int), (a1 : List Int), _⟩ => by show LeT m_nat_Add (nat_Add.f k a0 a1) _; unfold nat_Add.f; (try simp only [e_nat_Add_l1]); exact go)
end
section
def s_limb_Sub : FSpec := ⟨[.int .u64, .int .u64, .int .u64], [.int .u64, .int .u64], fun _ x => (limb_Sub.f x.1 x.2.1 x.2.2.1).map fun r => (r.1, r.2, ())⟩
def m_limb_Sub (r : Int × Int) : TT s_limb_Sub.rs := (r.1, r.2, ())
theorem o_limb_Sub : FOk Try.prog 42 s_limb_Sub :=
 fn_of (Bt := blook []) (l := []) (C := noCuts) (by kernel_rfl) tab_ok trivial (fn := Try.f42) (by kernel_rfl) rfl (by kernel_rfl) (by decide) (by kernel_rfl) (F := fun k x => limb_Sub.f x.1 x.2.1 x.2.2.1) (m := m_limb_Sub) (fun k x => rfl)
  (by exact trivial)
  (fun k ⟨(a0 : Int), (a1 : Int), (a2 : Int), _⟩ => by show LeT m_limb_Sub (limb_Sub.f a0 a1 a2) _; unfold limb_Sub.f; exact go)
end
section
attribute [local irreducible] limb_Sub.f nat_Trim.f nat_Cmp.f
def s_nat_Sub : FSpec := ⟨[(.row 22 (.int .u64)), (.row 22 (.int .u64))], [(.row 22 (.int .u64)), .bool], fun k x => (nat_Sub.f k x.1 x.2.1).map fun r => (r.1, r.2, ())⟩
def m_nat_Sub (r : List Int × Bool) : TT s_nat_Sub.rs := (r.1, r.2, ())
@[reducible] def q0_nat_Sub : List Slot := [.tmp 1 [.ty (.row 22 (.int .u64))], .tmp 6 [.own 6 22 (.int .u64)], .tmp 7 [.ty (.int .u64)], .tmp 18 [.ty (.row 22 (.int .u64))], .tmp 19 [.ty (.int .i64)], .tmp 20 [.ty (.int .i64)]]
def g0_nat_Sub (k : Nat) (x : TS q0_nat_Sub) : Option (List Int × Bool) := nat_Sub.l0 k x.1.1 x.2.1.1 x.2.2.1.1 x.2.2.2.1.1 x.2.2.2.2.1.1 x.2.2.2.2.2.1.1
def c_nat_Sub : Cuts (TT s_nat_Sub.rs) := ⟨47, lookC [(0, ⟨q0_nat_Sub, fun k x => (g0_nat_Sub k x).map m_nat_Sub⟩)], lookC [], lookC []⟩
theorem o_nat_Sub : FOk Try.prog 62 s_nat_Sub :=
 fn_of (Bt := blook []) (l := [(42, s_limb_Sub), (48, s_nat_Trim), (56, s_nat_Cmp)]) (C := c_nat_Sub) (by kernel_rfl) tab_ok ⟨o_limb_Sub, o_nat_Trim, o_nat_Cmp, trivial⟩ (fn := Try.f62) (by kernel_rfl) rfl (by kernel_rfl) (by decide) (by kernel_rfl) (F := fun k x => nat_Sub.f k x.1 x.2.1) (m := m_nat_Sub) (fun k x => rfl)
  (by
   refine And.intro ?_ ?_
   ·refine ob_loop (sl := q0_nat_Sub) (F := g0_nat_Sub) (fun x => rfl) fun k ⟨⟨(x1 : List Int), _⟩, ⟨(x6 : List Int), _⟩, ⟨(x7 : Int), _⟩, ⟨(x18 : List Int), _⟩, ⟨(x19 : Int), _⟩, ⟨(x20 : Int), _⟩, _⟩ => ?_
    show LeT m_nat_Sub (nat_Sub.l0 (k + 1) x1 x6 x7 x18 x19 x20) _
    rw [nat_Sub.l0]; exact go
   exact trivial)
  (fun k ⟨(a0 : List Int), (a1 : List Int), _⟩ => by show LeT m_nat_Sub (nat_Sub.f k a0 a1) _; unfold nat_Sub.f; exact go)
end
section
attribute [local irreducible] nat_Trim.f
def s_prod_above : FSpec := ⟨[(.row 22 (.int .u64)), .int .i64], [(.row 22 (.int .u64))], fun k x => (prod_above.f k x.1 x.2.1).map fun r => (r, ())⟩
def m_prod_above (r : List Int) : TT s_prod_above.rs := (r, ())
theorem o_prod_above : FOk Try.prog 161 s_prod_above :=
 fn_of (Bt := blook []) (l := [(48, s_nat_Trim)]) (C := noCuts) (by kernel_rfl) tab_ok ⟨o_nat_Trim, trivial⟩ (fn := Try.f161) (by kernel_rfl) rfl (by kernel_rfl) (by decide) (by kernel_rfl) (F := fun k x => prod_above.f k x.1 x.2.1) (m := m_prod_above) (fun k x => rfl)
  (by exact trivial)
  (fun k ⟨(a0 : List Int), (a1 : Int), _⟩ => by show LeT m_prod_above (prod_above.f k a0 a1) _; unfold prod_above.f; exact go)
end
section
attribute [local irreducible] nat_Trim.f
def s_prod_part : FSpec := ⟨[(.row 22 (.int .u64)), .int .i64, .int .i64], [(.row 22 (.int .u64))], fun k x => (prod_part.f k x.1 x.2.1 x.2.2.1).map fun r => (r, ())⟩
def m_prod_part (r : List Int) : TT s_prod_part.rs := (r, ())
theorem o_prod_part : FOk Try.prog 160 s_prod_part :=
 fn_of (Bt := blook []) (l := [(48, s_nat_Trim)]) (C := noCuts) (by kernel_rfl) tab_ok ⟨o_nat_Trim, trivial⟩ (fn := Try.f160) (by kernel_rfl) rfl (by kernel_rfl) (by decide) (by kernel_rfl) (F := fun k x => prod_part.f k x.1 x.2.1 x.2.2.1) (m := m_prod_part) (fun k x => rfl)
  (by exact trivial)
  (fun k ⟨(a0 : List Int), (a1 : Int), (a2 : Int), _⟩ => by show LeT m_prod_part (prod_part.f k a0 a1 a2) _; unfold prod_part.f; exact go)
end
section
attribute [local irreducible] limb_Mul.f limb_Add.f nat_Trim.f
def s_prod_rows : FSpec := ⟨[(.row 22 (.int .u64)), (.row 22 (.int .u64))], [(.row 22 (.int .u64))], fun k x => (prod_rows.f k x.1 x.2.1).map fun r => (r, ())⟩
def m_prod_rows (r : List Int) : TT s_prod_rows.rs := (r, ())
@[reducible] def q0_prod_rows : List Slot := [.tmp 1 [.ty (.row 22 (.int .u64))], .tmp 5 [.own 5 22 (.int .u64)], .tmp 21 [.ty (.row 22 (.int .u64))], .tmp 22 [.ty (.int .i64)], .tmp 23 [.ty (.int .i64)]]
def g0_prod_rows (k : Nat) (x : TS q0_prod_rows) : Option (List Int) := prod_rows.l0 k x.1.1 x.2.1.1 x.2.2.1.1 x.2.2.2.1.1 x.2.2.2.2.1.1
@[reducible] def q1_prod_rows : List Slot := [.tmp 1 [.ty (.row 22 (.int .u64))], .tmp 5 [.own 5 22 (.int .u64)], .tmp 6 [.ty (.int .i64)], .tmp 7 [.ty (.int .u64)], .tmp 8 [.ty (.int .u64)], .tmp 21 [.ty (.row 22 (.int .u64))], .tmp 22 [.ty (.int .i64)], .tmp 23 [.ty (.int .i64)], .tmp 28 [.ty (.row 22 (.int .u64))], .tmp 29 [.ty (.int .i64)], .tmp 30 [.ty (.int .i64)]]
def g1_prod_rows (k : Nat) (x : TS q1_prod_rows) : Option (List Int) := prod_rows.l1 k x.1.1 x.2.1.1 x.2.2.1.1 x.2.2.2.1.1 x.2.2.2.2.1.1 x.2.2.2.2.2.1.1 x.2.2.2.2.2.2.1.1 x.2.2.2.2.2.2.2.1.1 x.2.2.2.2.2.2.2.2.1.1 x.2.2.2.2.2.2.2.2.2.1.1 x.2.2.2.2.2.2.2.2.2.2.1.1
def c_prod_rows : Cuts (TT s_prod_rows.rs) := ⟨73, lookC [(0, ⟨q0_prod_rows, fun k x => (g0_prod_rows k x).map m_prod_rows⟩), (1, ⟨q1_prod_rows, fun k x => (g1_prod_rows k x).map m_prod_rows⟩)], lookC [], lookC []⟩
theorem o_prod_rows : FOk Try.prog 144 s_prod_rows :=
 fn_of (Bt := blook []) (l := [(33, s_limb_Mul), (40, s_limb_Add), (48, s_nat_Trim)]) (C := c_prod_rows) (by kernel_rfl) tab_ok ⟨o_limb_Mul, o_limb_Add, o_nat_Trim, trivial⟩ (fn := Try.f144) (by kernel_rfl) rfl (by kernel_rfl) (by decide) (by kernel_rfl) (F := fun k x => prod_rows.f k x.1 x.2.1) (m := m_prod_rows) (fun k x => rfl)
  (by
   refine And.intro ?_ ?_
   ·refine ob_loop (sl := q0_prod_rows) (F := g0_prod_rows) (fun x => rfl) fun k ⟨⟨(x1 : List Int), _⟩, ⟨(x5 : List Int), _⟩, ⟨(x21 : List Int), _⟩, ⟨(x22 : Int), _⟩, ⟨(x23 : Int), _⟩, _⟩ => ?_
    show LeT m_prod_rows (prod_rows.l0 (k + 1) x1 x5 x21 x22 x23) _
    rw [prod_rows.l0]; exact go
   refine And.intro ?_ ?_
   ·refine ob_loop (sl := q1_prod_rows) (F := g1_prod_rows) (fun x => rfl) fun k ⟨⟨(x1 : List Int), _⟩, ⟨(x5 : List Int), _⟩, ⟨(x6 : Int), _⟩, ⟨(x7 : Int), _⟩, ⟨(x8 : Int), _⟩, ⟨(x21 : List Int), _⟩, ⟨(x22 : Int), _⟩, ⟨(x23 : Int), _⟩, ⟨(x28 : List Int), _⟩, ⟨(x29 : Int), _⟩, ⟨(x30 : Int), _⟩, _⟩ => ?_
    show LeT m_prod_rows (prod_rows.l1 (k + 1) x1 x5 x6 x7 x8 x21 x22 x23 x28 x29 x30) _
    rw [prod_rows.l1]; exact go
   exact trivial)
  (fun k ⟨(a0 : List Int), (a1 : List Int), _⟩ => by show LeT m_prod_rows (prod_rows.f k a0 a1) _; unfold prod_rows.f; exact go)
end
section
attribute [local irreducible] nat_Add.f nat_Sub.f prod_above.f prod_part.f prod_rows.f
def s_prod_Mul : FSpec := ⟨[(.row 22 (.int .u64)), (.row 22 (.int .u64))], [(.row 22 (.int .u64))], fun k x => (prod_Mul.f k x.1 x.2.1).map fun r => (r, ())⟩
def m_prod_Mul (r : List Int) : TT s_prod_Mul.rs := (r, ())
def s_prod_halves : FSpec := ⟨[(.row 22 (.int .u64)), (.row 22 (.int .u64))], [(.row 22 (.int .u64))], fun k x => (prod_halves.f (prod_Mul.f k) k x.1 x.2.1).map m_prod_Mul⟩
theorem h_prod_halves (k : Nat) (ih : ∀ j, j ≤ k → FnOk Try.prog 71 s_prod_Mul j) : FnOk Try.prog 145 s_prod_halves k :=
 fn_ofK (s := s_prod_halves) (Bt := blook []) (l := [(62, s_nat_Sub), (63, s_nat_Add), (71, s_prod_Mul), (160, s_prod_part), (161, s_prod_above)]) (C := noCuts) (k := k) (by kernel_rfl) tab_ok ⟨⟨o_nat_Sub.1, fun j _ => o_nat_Sub.2 j⟩, ⟨o_nat_Add.1, fun j _ => o_nat_Add.2 j⟩, ⟨by kernel_rfl, ih⟩, ⟨o_prod_part.1, fun j _ => o_prod_part.2 j⟩, ⟨o_prod_above.1, fun j _ => o_prod_above.2 j⟩, trivial⟩ (fn := Try.f145) (by kernel_rfl) rfl (by kernel_rfl) (by decide) (F := fun x => prod_halves.f (prod_Mul.f k) k x.1 x.2.1) (m := m_prod_Mul) (fun x => rfl)
  (by exact trivial)
  (fun ⟨(a0 : List Int), (a1 : List Int), _⟩ => by show LeT m_prod_Mul (prod_halves.f (prod_Mul.f k) k a0 a1) _; unfold prod_halves.f; exact go)
theorem h_prod_Mul (k : Nat) (ih : ∀ j, j ≤ k → FnOk Try.prog 145 s_prod_halves j) : FnOk Try.prog 71 s_prod_Mul (k + 1) :=
 fn_ofK (s := s_prod_Mul) (Bt := blook []) (l := [(144, s_prod_rows), (145, s_prod_halves)]) (C := noCuts) (k := k) (by kernel_rfl) tab_ok ⟨⟨o_prod_rows.1, fun j _ => o_prod_rows.2 j⟩, ⟨by kernel_rfl, ih⟩, trivial⟩ (fn := Try.f71) (by kernel_rfl) rfl (by kernel_rfl) (by decide) (F := fun x => prod_Mul.f (k + 1) x.1 x.2.1) (m := m_prod_Mul) (fun x => rfl)
  (by exact trivial)
  (fun ⟨(a0 : List Int), (a1 : List Int), _⟩ => by show LeT m_prod_Mul (prod_Mul.f (k + 1) a0 a1) _; rw [prod_Mul.f]; exact go)
theorem b_prod_Mul : ∀ k j, j ≤ k → FnOk Try.prog 71 s_prod_Mul j
 | 0, j, hj => by
  obtain rfl : j = 0 := by omega
  intro x r h
  cases h
 | k + 1, j, hj => by
  rcases Nat.lt_or_ge j (k + 1) with h | h
  ·exact b_prod_Mul k j (by omega)
  ·obtain rfl : j = k + 1 := by omega
   exact h_prod_Mul k fun i hi => h_prod_halves i fun q hq => b_prod_Mul k q (by omega)
theorem o_prod_Mul : FOk Try.prog 71 s_prod_Mul := ⟨by kernel_rfl, fun k => b_prod_Mul k k (Nat.le_refl k)⟩
end
section
attribute [local irreducible] gcd_Reduce.f
def s_rat_lowest : FSpec := ⟨[.bool, (.row 22 (.int .u64)), (.row 22 (.int .u64))], [(.cons .bool (.cons (.row 22 (.int .u64)) (.row 22 (.int .u64))))], fun k x => (rat_lowest.f k x.1 x.2.1 x.2.2.1).map fun r => ((r.1, r.2.1, r.2.2), ())⟩
def m_rat_lowest (r : Bool × List Int × List Int) : TT s_rat_lowest.rs := ((r.1, r.2.1, r.2.2), ())
theorem o_rat_lowest : FOk Try.prog 153 s_rat_lowest :=
 fn_of (Bt := blook []) (l := [(92, s_gcd_Reduce)]) (C := noCuts) (by kernel_rfl) tab_ok ⟨o_gcd_Reduce, trivial⟩ (fn := Try.f153) (by kernel_rfl) rfl (by kernel_rfl) (by decide) (by kernel_rfl) (F := fun k x => rat_lowest.f k x.1 x.2.1 x.2.2.1) (m := m_rat_lowest) (fun k x => rfl)
  (by exact trivial)
  (fun k ⟨(a0 : Bool), (a1 : List Int), (a2 : List Int), _⟩ => by show LeT m_rat_lowest (rat_lowest.f k a0 a1 a2) _; unfold rat_lowest.f; exact go)
end
section
def s_nat_Right : FSpec := ⟨[(.row 22 (.int .u64))], [.bool], fun _ x => (nat_Right.f x.1).map fun r => (r, ())⟩
def m_nat_Right (r : Bool) : TT s_nat_Right.rs := (r, ())
theorem o_nat_Right : FOk Try.prog 54 s_nat_Right :=
 fn_of (Bt := blook []) (l := []) (C := noCuts) (by kernel_rfl) tab_ok trivial (fn := Try.f54) (by kernel_rfl) rfl (by kernel_rfl) (by decide) (by kernel_rfl) (F := fun k x => nat_Right.f x.1) (m := m_nat_Right) (fun k x => rfl)
  (by exact trivial)
  (fun k ⟨(a0 : List Int), _⟩ => by show LeT m_nat_Right (nat_Right.f a0) _; unfold nat_Right.f; exact go)
end
section
attribute [local irreducible] nat_Right.f nat_Cmp.f
def s_rat_same : FSpec := ⟨[(.row 22 (.int .u64)), (.row 22 (.int .u64))], [.bool], fun k x => (rat_same.f k x.1 x.2.1).map fun r => (r, ())⟩
def m_rat_same (r : Bool) : TT s_rat_same.rs := (r, ())
theorem o_rat_same : FOk Try.prog 156 s_rat_same :=
 fn_of (Bt := blook []) (l := [(54, s_nat_Right), (56, s_nat_Cmp)]) (C := noCuts) (by kernel_rfl) tab_ok ⟨o_nat_Right, o_nat_Cmp, trivial⟩ (fn := Try.f156) (by kernel_rfl) rfl (by kernel_rfl) (by decide) (by kernel_rfl) (F := fun k x => rat_same.f k x.1 x.2.1) (m := m_rat_same) (fun k x => rfl)
  (by exact trivial)
  (fun k ⟨(a0 : List Int), (a1 : List Int), _⟩ => by show LeT m_rat_same (rat_same.f k a0 a1) _; unfold rat_same.f; exact go)
end
section
attribute [local irreducible] nat_Sub.f nat_Add.f
def s_rat_sum : FSpec := ⟨[.bool, (.row 22 (.int .u64)), .bool, (.row 22 (.int .u64))], [.bool, (.row 22 (.int .u64))], fun k x => (rat_sum.f k x.1 x.2.1 x.2.2.1 x.2.2.2.1).map fun r => (r.1, r.2, ())⟩
def m_rat_sum (r : Bool × List Int) : TT s_rat_sum.rs := (r.1, r.2, ())
theorem o_rat_sum : FOk Try.prog 157 s_rat_sum :=
 fn_of (Bt := blook []) (l := [(62, s_nat_Sub), (63, s_nat_Add)]) (C := noCuts) (by kernel_rfl) tab_ok ⟨o_nat_Sub, o_nat_Add, trivial⟩ (fn := Try.f157) (by kernel_rfl) rfl (by kernel_rfl) (by decide) (by kernel_rfl) (F := fun k x => rat_sum.f k x.1 x.2.1 x.2.2.1 x.2.2.2.1) (m := m_rat_sum) (fun k x => rfl)
  (by exact trivial)
  (fun k ⟨(a0 : Bool), (a1 : List Int), (a2 : Bool), (a3 : List Int), _⟩ => by show LeT m_rat_sum (rat_sum.f k a0 a1 a2 a3) _; unfold rat_sum.f; exact go)
end
section
attribute [local irreducible] limb_Len.f nat_size.f
def s_nat_Bits : FSpec := ⟨[(.row 22 (.int .u64))], [.int .i64], fun k x => (nat_Bits.f k x.1).map fun r => (r, ())⟩
def m_nat_Bits (r : Int) : TT s_nat_Bits.rs := (r, ())
theorem o_nat_Bits : FOk Try.prog 49 s_nat_Bits :=
 fn_of (Bt := blook []) (l := [(37, s_limb_Len), (140, s_nat_size)]) (C := noCuts) (by kernel_rfl) tab_ok ⟨o_limb_Len, o_nat_size, trivial⟩ (fn := Try.f49) (by kernel_rfl) rfl (by kernel_rfl) (by decide) (by kernel_rfl) (F := fun k x => nat_Bits.f k x.1) (m := m_nat_Bits) (fun k x => rfl)
  (by exact trivial)
  (fun k ⟨(a0 : List Int), _⟩ => by show LeT m_nat_Bits (nat_Bits.f k a0) _; unfold nat_Bits.f; exact go)
end
section
attribute [local irreducible] nat_Bits.f rat_one.f
def s_rat_safe : FSpec := ⟨[(.row 22 (.int .u64))], [(.row 22 (.int .u64))], fun k x => (rat_safe.f k x.1).map fun r => (r, ())⟩
def m_rat_safe (r : List Int) : TT s_rat_safe.rs := (r, ())
theorem o_rat_safe : FOk Try.prog 158 s_rat_safe :=
 fn_of (Bt := blook []) (l := [(49, s_nat_Bits), (155, s_rat_one)]) (C := noCuts) (by kernel_rfl) tab_ok ⟨o_nat_Bits, o_rat_one, trivial⟩ (fn := Try.f158) (by kernel_rfl) rfl (by kernel_rfl) (by decide) (by kernel_rfl) (F := fun k x => rat_safe.f k x.1) (m := m_rat_safe) (fun k x => rfl)
  (by exact trivial)
  (fun k ⟨(a0 : List Int), _⟩ => by show LeT m_rat_safe (rat_safe.f k a0) _; unfold rat_safe.f; exact go)
end
section
attribute [local irreducible] rat_lowest.f rat_same.f rat_sum.f rat_safe.f
def s_rat_Add : FSpec := ⟨[(.cons .bool (.cons (.row 22 (.int .u64)) (.row 22 (.int .u64)))), (.cons .bool (.cons (.row 22 (.int .u64)) (.row 22 (.int .u64))))], [(.cons .bool (.cons (.row 22 (.int .u64)) (.row 22 (.int .u64))))], fun k x => (rat_Add.f k x.1.1 x.1.2.1 x.1.2.2 x.2.1.1 x.2.1.2.1 x.2.1.2.2).map fun r => ((r.1, r.2.1, r.2.2), ())⟩
def m_rat_Add (r : Bool × List Int × List Int) : TT s_rat_Add.rs := ((r.1, r.2.1, r.2.2), ())
theorem o_rat_Add : FOk Try.prog 112 s_rat_Add :=
 fn_of (Bt := blook [(4, [0, 1, 0, 4, 0, 16, 60, 0, 128, 0, 512, 0, 2048, 7804, 16383, 32767, 65535, 65535, 131071, 524287])]) (l := [(71, s_prod_Mul), (153, s_rat_lowest), (156, s_rat_same), (157, s_rat_sum), (158, s_rat_safe)]) (C := noCuts) (by kernel_rfl) tab_ok ⟨o_prod_Mul, o_rat_lowest, o_rat_same, o_rat_sum, o_rat_safe, trivial⟩ (fn := Try.f112) (by kernel_rfl) rfl (by kernel_rfl) (by decide) (by kernel_rfl) (F := fun k x => rat_Add.f k x.1.1 x.1.2.1 x.1.2.2 x.2.1.1 x.2.1.2.1 x.2.1.2.2) (m := m_rat_Add) (fun k x => rfl)
  (by exact trivial)
  (fun k ⟨(a0 : Bool × List Int × List Int), (a1 : Bool × List Int × List Int), _⟩ => by show LeT m_rat_Add (rat_Add.f k a0.1 a0.2.1 a0.2.2 a1.1 a1.2.1 a1.2.2) _; unfold rat_Add.f; exact go)
end
section
attribute [local irreducible] nat_Trim.f nat_Bits.f
def s_rat_Neg : FSpec := ⟨[(.cons .bool (.cons (.row 22 (.int .u64)) (.row 22 (.int .u64))))], [(.cons .bool (.cons (.row 22 (.int .u64)) (.row 22 (.int .u64))))], fun k x => (rat_Neg.f k x.1.1 x.1.2.1 x.1.2.2).map fun r => ((r.1, r.2.1, r.2.2), ())⟩
def m_rat_Neg (r : Bool × List Int × List Int) : TT s_rat_Neg.rs := ((r.1, r.2.1, r.2.2), ())
theorem o_rat_Neg : FOk Try.prog 118 s_rat_Neg :=
 fn_of (Bt := blook [(1, [0, 1, 3, 7, 15, 31, 63, 127, 255, 0, 512, 1663, 0, 4096, 15999, 32767, 65535])]) (l := [(48, s_nat_Trim), (49, s_nat_Bits)]) (C := noCuts) (by kernel_rfl) tab_ok ⟨o_nat_Trim, o_nat_Bits, trivial⟩ (fn := Try.f118) (by kernel_rfl) rfl (by kernel_rfl) (by decide) (by kernel_rfl) (F := fun k x => rat_Neg.f k x.1.1 x.1.2.1 x.1.2.2) (m := m_rat_Neg) (fun k x => rfl)
  (by exact trivial)
  (fun k ⟨(a0 : Bool × List Int × List Int), _⟩ => by show LeT m_rat_Neg (rat_Neg.f k a0.1 a0.2.1 a0.2.2) _; unfold rat_Neg.f; exact go)
end
section
attribute [local irreducible] rat_Add.f rat_Neg.f
def s_rat_Sub : FSpec := ⟨[(.cons .bool (.cons (.row 22 (.int .u64)) (.row 22 (.int .u64)))), (.cons .bool (.cons (.row 22 (.int .u64)) (.row 22 (.int .u64))))], [(.cons .bool (.cons (.row 22 (.int .u64)) (.row 22 (.int .u64))))], fun k x => (rat_Sub.f k x.1.1 x.1.2.1 x.1.2.2 x.2.1.1 x.2.1.2.1 x.2.1.2.2).map fun r => ((r.1, r.2.1, r.2.2), ())⟩
def m_rat_Sub (r : Bool × List Int × List Int) : TT s_rat_Sub.rs := ((r.1, r.2.1, r.2.2), ())
theorem o_rat_Sub : FOk Try.prog 114 s_rat_Sub :=
 fn_of (Bt := blook [(1, [0, 0, 2, 7, 15])]) (l := [(112, s_rat_Add), (118, s_rat_Neg)]) (C := noCuts) (by kernel_rfl) tab_ok ⟨o_rat_Add, o_rat_Neg, trivial⟩ (fn := Try.f114) (by kernel_rfl) rfl (by kernel_rfl) (by decide) (by kernel_rfl) (F := fun k x => rat_Sub.f k x.1.1 x.1.2.1 x.1.2.2 x.2.1.1 x.2.1.2.1 x.2.1.2.2) (m := m_rat_Sub) (fun k x => rfl)
  (by exact trivial)
  (fun k ⟨(a0 : Bool × List Int × List Int), (a1 : Bool × List Int × List Int), _⟩ => by show LeT m_rat_Sub (rat_Sub.f k a0.1 a0.2.1 a0.2.2 a1.1 a1.2.1 a1.2.2) _; unfold rat_Sub.f; exact go)
end
section
attribute [local irreducible] nat_Bits.f
def s_rat_Sign : FSpec := ⟨[(.cons .bool (.cons (.row 22 (.int .u64)) (.row 22 (.int .u64))))], [.int .i64], fun k x => (rat_Sign.f k x.1.1 x.1.2.1 x.1.2.2).map fun r => (r, ())⟩
def m_rat_Sign (r : Int) : TT s_rat_Sign.rs := (r, ())
theorem o_rat_Sign : FOk Try.prog 122 s_rat_Sign :=
 fn_of (Bt := blook []) (l := [(49, s_nat_Bits)]) (C := noCuts) (by kernel_rfl) tab_ok ⟨o_nat_Bits, trivial⟩ (fn := Try.f122) (by kernel_rfl) rfl (by kernel_rfl) (by decide) (by kernel_rfl) (F := fun k x => rat_Sign.f k x.1.1 x.1.2.1 x.1.2.2) (m := m_rat_Sign) (fun k x => rfl)
  (by exact trivial)
  (fun k ⟨(a0 : Bool × List Int × List Int), _⟩ => by show LeT m_rat_Sign (rat_Sign.f k a0.1 a0.2.1 a0.2.2) _; unfold rat_Sign.f; exact go)
end
section
attribute [local irreducible] rat_Sub.f rat_Sign.f
def s_rat_Cmp : FSpec := ⟨[(.cons .bool (.cons (.row 22 (.int .u64)) (.row 22 (.int .u64)))), (.cons .bool (.cons (.row 22 (.int .u64)) (.row 22 (.int .u64))))], [.int .i64], fun k x => (rat_Cmp.f k x.1.1 x.1.2.1 x.1.2.2 x.2.1.1 x.2.1.2.1 x.2.1.2.2).map fun r => (r, ())⟩
def m_rat_Cmp (r : Int) : TT s_rat_Cmp.rs := (r, ())
theorem o_rat_Cmp : FOk Try.prog 120 s_rat_Cmp :=
 fn_of (Bt := blook []) (l := [(114, s_rat_Sub), (122, s_rat_Sign)]) (C := noCuts) (by kernel_rfl) tab_ok ⟨o_rat_Sub, o_rat_Sign, trivial⟩ (fn := Try.f120) (by kernel_rfl) rfl (by kernel_rfl) (by decide) (by kernel_rfl) (F := fun k x => rat_Cmp.f k x.1.1 x.1.2.1 x.1.2.2 x.2.1.1 x.2.1.2.1 x.2.1.2.2) (m := m_rat_Cmp) (fun k x => rfl)
  (by exact trivial)
  (fun k ⟨(a0 : Bool × List Int × List Int), (a1 : Bool × List Int × List Int), _⟩ => by show LeT m_rat_Cmp (rat_Cmp.f k a0.1 a0.2.1 a0.2.2 a1.1 a1.2.1 a1.2.2) _; unfold rat_Cmp.f; exact go)
end
section
def s_gradineplain_Long : FSpec := ⟨[(.cons .bool (.cons (.row 22 (.int .u64)) (.row 22 (.int .u64)))), .int .i64], [.bool], fun _ x => (gradineplain_Long.f x.1.1 x.1.2.1 x.1.2.2 x.2.1).map fun r => (r, ())⟩
def m_gradineplain_Long (r : Bool) : TT s_gradineplain_Long.rs := (r, ())
theorem o_gradineplain_Long : FOk Try.prog 97 s_gradineplain_Long :=
 fn_of (Bt := blook []) (l := []) (C := noCuts) (by kernel_rfl) tab_ok trivial (fn := Try.f97) (by kernel_rfl) rfl (by kernel_rfl) (by decide) (by kernel_rfl) (F := fun k x => gradineplain_Long.f x.1.1 x.1.2.1 x.1.2.2 x.2.1) (m := m_gradineplain_Long) (fun k x => rfl)
  (by exact trivial)
  (fun k ⟨(a0 : Bool × List Int × List Int), (a1 : Int), _⟩ => by show LeT m_gradineplain_Long (gradineplain_Long.f a0.1 a0.2.1 a0.2.2 a1) _; unfold gradineplain_Long.f; exact go)
end
section
def s_gradineref02_Size : FSpec := ⟨[(.row 22 (.int .u64))], [.int .i64], fun k x => (gradineref02_Size.f k x.1).map fun r => (r, ())⟩
def m_gradineref02_Size (r : Int) : TT s_gradineref02_Size.rs := (r, ())
@[reducible] def q0_gradineref02_Size : List Slot := [.tmp 0 [.ty (.row 22 (.int .u64))], .tmp 3 [.ty (.int .i64)]]
def g0_gradineref02_Size (k : Nat) (x : TS q0_gradineref02_Size) : Option (Int) := gradineref02_Size.l0 k x.1.1 x.2.1.1
def c_gradineref02_Size : Cuts (TT s_gradineref02_Size.rs) := ⟨19, lookC [(0, ⟨q0_gradineref02_Size, fun k x => (g0_gradineref02_Size k x).map m_gradineref02_Size⟩)], lookC [], lookC []⟩
theorem o_gradineref02_Size : FOk Try.prog 83 s_gradineref02_Size :=
 fn_of (Bt := blook []) (l := []) (C := c_gradineref02_Size) (by kernel_rfl) tab_ok trivial (fn := Try.f83) (by kernel_rfl) rfl (by kernel_rfl) (by decide) (by kernel_rfl) (F := fun k x => gradineref02_Size.f k x.1) (m := m_gradineref02_Size) (fun k x => rfl)
  (by
   refine And.intro ?_ ?_
   ·refine ob_loop (sl := q0_gradineref02_Size) (F := g0_gradineref02_Size) (fun x => rfl) fun k ⟨⟨(x0 : List Int), _⟩, ⟨(x3 : Int), _⟩, _⟩ => ?_
    show LeT m_gradineref02_Size (gradineref02_Size.l0 (k + 1) x0 x3) _
    rw [gradineref02_Size.l0]; exact go
   exact trivial)
  (fun k ⟨(a0 : List Int), _⟩ => by show LeT m_gradineref02_Size (gradineref02_Size.f k a0) _; unfold gradineref02_Size.f; exact go)
end
section
attribute [local irreducible] gradineref02_Size.f
def s_gradineref02_Right : FSpec := ⟨[(.row 22 (.int .u64))], [.bool], fun k x => (gradineref02_Right.f k x.1).map fun r => (r, ())⟩
def m_gradineref02_Right (r : Bool) : TT s_gradineref02_Right.rs := (r, ())
theorem o_gradineref02_Right : FOk Try.prog 55 s_gradineref02_Right :=
 fn_of (Bt := blook []) (l := [(83, s_gradineref02_Size)]) (C := noCuts) (by kernel_rfl) tab_ok ⟨o_gradineref02_Size, trivial⟩ (fn := Try.f55) (by kernel_rfl) rfl (by kernel_rfl) (by decide) (by kernel_rfl) (F := fun k x => gradineref02_Right.f k x.1) (m := m_gradineref02_Right) (fun k x => rfl)
  (by exact trivial)
  (fun k ⟨(a0 : List Int), _⟩ => by show LeT m_gradineref02_Right (gradineref02_Right.f k a0) _; unfold gradineref02_Right.f; exact go)
end
section
def s_gradineref02_at : FSpec := ⟨[(.row 22 (.int .u64)), .int .i64], [.int .u64], fun _ x => (gradineref02_at.f x.1 x.2.1).map fun r => (r, ())⟩
def m_gradineref02_at (r : Int) : TT s_gradineref02_at.rs := (r, ())
theorem o_gradineref02_at : FOk Try.prog 141 s_gradineref02_at :=
 fn_of (Bt := blook []) (l := []) (C := noCuts) (by kernel_rfl) tab_ok trivial (fn := Try.f141) (by kernel_rfl) rfl (by kernel_rfl) (by decide) (by kernel_rfl) (F := fun k x => gradineref02_at.f x.1 x.2.1) (m := m_gradineref02_at) (fun k x => rfl)
  (by exact trivial)
  (fun k ⟨(a0 : List Int), (a1 : Int), _⟩ => by show LeT m_gradineref02_at (gradineref02_at.f a0 a1) _; unfold gradineref02_at.f; exact go)
end
section
attribute [local irreducible] gradineref02_at.f
def s_gradineref02_Cmp : FSpec := ⟨[(.row 22 (.int .u64)), (.row 22 (.int .u64))], [.int .i64], fun k x => (gradineref02_Cmp.f k x.1 x.2.1).map fun r => (r, ())⟩
def m_gradineref02_Cmp (r : Int) : TT s_gradineref02_Cmp.rs := (r, ())
@[reducible] def q0_gradineref02_Cmp : List Slot := [.tmp 0 [.ty (.row 22 (.int .u64))], .tmp 1 [.ty (.row 22 (.int .u64))], .tmp 6 [.ty (.int .i64)]]
def g0_gradineref02_Cmp (k : Nat) (x : TS q0_gradineref02_Cmp) : Option (Int) := gradineref02_Cmp.l0 k x.1.1 x.2.1.1 x.2.2.1.1
def c_gradineref02_Cmp : Cuts (TT s_gradineref02_Cmp.rs) := ⟨32, lookC [(0, ⟨q0_gradineref02_Cmp, fun k x => (g0_gradineref02_Cmp k x).map m_gradineref02_Cmp⟩)], lookC [], lookC []⟩
theorem o_gradineref02_Cmp : FOk Try.prog 57 s_gradineref02_Cmp :=
 fn_of (Bt := blook []) (l := [(141, s_gradineref02_at)]) (C := c_gradineref02_Cmp) (by kernel_rfl) tab_ok ⟨o_gradineref02_at, trivial⟩ (fn := Try.f57) (by kernel_rfl) rfl (by kernel_rfl) (by decide) (by kernel_rfl) (F := fun k x => gradineref02_Cmp.f k x.1 x.2.1) (m := m_gradineref02_Cmp) (fun k x => rfl)
  (by
   refine And.intro ?_ ?_
   ·refine ob_loop (sl := q0_gradineref02_Cmp) (F := g0_gradineref02_Cmp) (fun x => rfl) fun k ⟨⟨(x0 : List Int), _⟩, ⟨(x1 : List Int), _⟩, ⟨(x6 : Int), _⟩, _⟩ => ?_
    show LeT m_gradineref02_Cmp (gradineref02_Cmp.l0 (k + 1) x0 x1 x6) _
    rw [gradineref02_Cmp.l0]; exact go
   exact trivial)
  (fun k ⟨(a0 : List Int), (a1 : List Int), _⟩ => by show LeT m_gradineref02_Cmp (gradineref02_Cmp.f k a0 a1) _; unfold gradineref02_Cmp.f; exact go)
end
section
attribute [local irreducible] gradineref02_Size.f
def s_gradineref02_Trim : FSpec := ⟨[(.row 22 (.int .u64))], [(.row 22 (.int .u64))], fun k x => (gradineref02_Trim.f k x.1).map fun r => (r, ())⟩
def m_gradineref02_Trim (r : List Int) : TT s_gradineref02_Trim.rs := (r, ())
@[reducible] def q0_gradineref02_Trim : List Slot := [.tmp 0 [.ty (.row 22 (.int .u64))], .tmp 3 [.own 3 22 (.int .u64)], .tmp 6 [.ty (.int .i64)], .tmp 7 [.ty (.int .i64)]]
def g0_gradineref02_Trim (k : Nat) (x : TS q0_gradineref02_Trim) : Option (List Int) := gradineref02_Trim.l0 k x.1.1 x.2.1.1 x.2.2.1.1 x.2.2.2.1.1
def c_gradineref02_Trim : Cuts (TT s_gradineref02_Trim.rs) := ⟨19, lookC [(0, ⟨q0_gradineref02_Trim, fun k x => (g0_gradineref02_Trim k x).map m_gradineref02_Trim⟩)], lookC [], lookC []⟩
theorem o_gradineref02_Trim : FOk Try.prog 52 s_gradineref02_Trim :=
 fn_of (Bt := blook []) (l := [(83, s_gradineref02_Size)]) (C := c_gradineref02_Trim) (by kernel_rfl) tab_ok ⟨o_gradineref02_Size, trivial⟩ (fn := Try.f52) (by kernel_rfl) rfl (by kernel_rfl) (by decide) (by kernel_rfl) (F := fun k x => gradineref02_Trim.f k x.1) (m := m_gradineref02_Trim) (fun k x => rfl)
  (by
   refine And.intro ?_ ?_
   ·refine ob_loop (sl := q0_gradineref02_Trim) (F := g0_gradineref02_Trim) (fun x => rfl) fun k ⟨⟨(x0 : List Int), _⟩, ⟨(x3 : List Int), _⟩, ⟨(x6 : Int), _⟩, ⟨(x7 : Int), _⟩, _⟩ => ?_
    show LeT m_gradineref02_Trim (gradineref02_Trim.l0 (k + 1) x0 x3 x6 x7) _
    rw [gradineref02_Trim.l0]; exact go
   exact trivial)
  (fun k ⟨(a0 : List Int), _⟩ => by show LeT m_gradineref02_Trim (gradineref02_Trim.f k a0) _; unfold gradineref02_Trim.f; exact go)
end
section
def s_gradineref02_Bit : FSpec := ⟨[(.row 22 (.int .u64)), .int .i64], [.bool], fun _ x => (gradineref02_Bit.f x.1 x.2.1).map fun r => (r, ())⟩
def m_gradineref02_Bit (r : Bool) : TT s_gradineref02_Bit.rs := (r, ())
theorem o_gradineref02_Bit : FOk Try.prog 60 s_gradineref02_Bit :=
 fn_of (Bt := blook []) (l := []) (C := noCuts) (by kernel_rfl) tab_ok trivial (fn := Try.f60) (by kernel_rfl) rfl (by kernel_rfl) (by decide) (by kernel_rfl) (F := fun k x => gradineref02_Bit.f x.1 x.2.1) (m := m_gradineref02_Bit) (fun k x => rfl)
  (by exact trivial)
  (fun k ⟨(a0 : List Int), (a1 : Int), _⟩ => by show LeT m_gradineref02_Bit (gradineref02_Bit.f a0 a1) _; unfold gradineref02_Bit.f; exact go)
end
section
attribute [local irreducible] gradineref02_Bit.f gradineref02_Size.f
def s_gradineref02_Even : FSpec := ⟨[(.row 22 (.int .u64))], [.int .i64], fun k x => (gradineref02_Even.f k x.1).map fun r => (r, ())⟩
def m_gradineref02_Even (r : Int) : TT s_gradineref02_Even.rs := (r, ())
@[reducible] def q0_gradineref02_Even : List Slot := [.tmp 0 [.ty (.row 22 (.int .u64))], .tmp 3 [.ty (.int .i64)]]
def g0_gradineref02_Even (k : Nat) (x : TS q0_gradineref02_Even) : Option (Int) := gradineref02_Even.l0 k x.1.1 x.2.1.1
def c_gradineref02_Even : Cuts (TT s_gradineref02_Even.rs) := ⟨14, lookC [(0, ⟨q0_gradineref02_Even, fun k x => (g0_gradineref02_Even k x).map m_gradineref02_Even⟩)], lookC [], lookC []⟩
theorem o_gradineref02_Even : FOk Try.prog 61 s_gradineref02_Even :=
 fn_of (Bt := blook []) (l := [(60, s_gradineref02_Bit), (83, s_gradineref02_Size)]) (C := c_gradineref02_Even) (by kernel_rfl) tab_ok ⟨o_gradineref02_Bit, o_gradineref02_Size, trivial⟩ (fn := Try.f61) (by kernel_rfl) rfl (by kernel_rfl) (by decide) (by kernel_rfl) (F := fun k x => gradineref02_Even.f k x.1) (m := m_gradineref02_Even) (fun k x => rfl)
  (by
   refine And.intro ?_ ?_
   ·refine ob_loop (sl := q0_gradineref02_Even) (F := g0_gradineref02_Even) (fun x => rfl) fun k ⟨⟨(x0 : List Int), _⟩, ⟨(x3 : Int), _⟩, _⟩ => ?_
    show LeT m_gradineref02_Even (gradineref02_Even.l0 (k + 1) x0 x3) _
    rw [gradineref02_Even.l0]; exact go
   exact trivial)
  (fun k ⟨(a0 : List Int), _⟩ => by show LeT m_gradineref02_Even (gradineref02_Even.f k a0) _; unfold gradineref02_Even.f; exact go)
end
section
attribute [local irreducible] gradineref02_Trim.f
def s_gradineref02_Halves : FSpec := ⟨[(.row 22 (.int .u64))], [(.row 22 (.int .u64))], fun k x => (gradineref02_Halves.f k x.1).map fun r => (r, ())⟩
def m_gradineref02_Halves (r : List Int) : TT s_gradineref02_Halves.rs := (r, ())
@[reducible] def q0_gradineref02_Halves : List Slot := [.tmp 0 [.ty (.row 22 (.int .u64))], .tmp 3 [.own 3 22 (.int .u64)], .tmp 6 [.ty (.int .i64)], .tmp 7 [.ty (.int .i64)]]
def g0_gradineref02_Halves (k : Nat) (x : TS q0_gradineref02_Halves) : Option (List Int) := gradineref02_Halves.l0 k x.1.1 x.2.1.1 x.2.2.1.1 x.2.2.2.1.1
def c_gradineref02_Halves : Cuts (TT s_gradineref02_Halves.rs) := ⟨29, lookC [(0, ⟨q0_gradineref02_Halves, fun k x => (g0_gradineref02_Halves k x).map m_gradineref02_Halves⟩)], lookC [], lookC []⟩
theorem o_gradineref02_Halves : FOk Try.prog 142 s_gradineref02_Halves :=
 fn_of (Bt := blook []) (l := [(52, s_gradineref02_Trim)]) (C := c_gradineref02_Halves) (by kernel_rfl) tab_ok ⟨o_gradineref02_Trim, trivial⟩ (fn := Try.f142) (by kernel_rfl) rfl (by kernel_rfl) (by decide) (by kernel_rfl) (F := fun k x => gradineref02_Halves.f k x.1) (m := m_gradineref02_Halves) (fun k x => rfl)
  (by
   refine And.intro ?_ ?_
   ·refine ob_loop (sl := q0_gradineref02_Halves) (F := g0_gradineref02_Halves) (fun x => rfl) fun k ⟨⟨(x0 : List Int), _⟩, ⟨(x3 : List Int), _⟩, ⟨(x6 : Int), _⟩, ⟨(x7 : Int), _⟩, _⟩ => ?_
    show LeT m_gradineref02_Halves (gradineref02_Halves.l0 (k + 1) x0 x3 x6 x7) _
    rw [gradineref02_Halves.l0]; exact go
   exact trivial)
  (fun k ⟨(a0 : List Int), _⟩ => by show LeT m_gradineref02_Halves (gradineref02_Halves.f k a0) _; unfold gradineref02_Halves.f; exact go)
end
section
attribute [local irreducible] gradineref02_Trim.f
def s_gradineref02_Whole : FSpec := ⟨[(.row 22 (.int .u64))], [(.row 22 (.int .u64))], fun k x => (gradineref02_Whole.f k x.1).map fun r => (r, ())⟩
def m_gradineref02_Whole (r : List Int) : TT s_gradineref02_Whole.rs := (r, ())
@[reducible] def q0_gradineref02_Whole : List Slot := [.tmp 0 [.ty (.row 22 (.int .u64))], .tmp 3 [.own 3 22 (.int .u64)], .tmp 4 [.ty (.int .i64)]]
def g0_gradineref02_Whole (k : Nat) (x : TS q0_gradineref02_Whole) : Option (List Int) := gradineref02_Whole.l0 k x.1.1 x.2.1.1 x.2.2.1.1
def c_gradineref02_Whole : Cuts (TT s_gradineref02_Whole.rs) := ⟨35, lookC [(0, ⟨q0_gradineref02_Whole, fun k x => (g0_gradineref02_Whole k x).map m_gradineref02_Whole⟩)], lookC [], lookC []⟩
theorem o_gradineref02_Whole : FOk Try.prog 143 s_gradineref02_Whole :=
 fn_of (Bt := blook []) (l := [(52, s_gradineref02_Trim)]) (C := c_gradineref02_Whole) (by kernel_rfl) tab_ok ⟨o_gradineref02_Trim, trivial⟩ (fn := Try.f143) (by kernel_rfl) rfl (by kernel_rfl) (by decide) (by kernel_rfl) (F := fun k x => gradineref02_Whole.f k x.1) (m := m_gradineref02_Whole) (fun k x => rfl)
  (by
   refine And.intro ?_ ?_
   ·refine ob_loop (sl := q0_gradineref02_Whole) (F := g0_gradineref02_Whole) (fun x => rfl) fun k ⟨⟨(x0 : List Int), _⟩, ⟨(x3 : List Int), _⟩, ⟨(x4 : Int), _⟩, _⟩ => ?_
    show LeT m_gradineref02_Whole (gradineref02_Whole.l0 (k + 1) x0 x3 x4) _
    rw [gradineref02_Whole.l0]; exact go
   exact trivial)
  (fun k ⟨(a0 : List Int), _⟩ => by show LeT m_gradineref02_Whole (gradineref02_Whole.f k a0) _; unfold gradineref02_Whole.f; exact go)
end
section
attribute [local irreducible] gradineref02_at.f gradineref02_Halves.f gradineref02_Whole.f
def s_gradineref02_Sub : FSpec := ⟨[(.row 22 (.int .u64)), (.row 22 (.int .u64))], [(.row 22 (.int .u64))], fun k x => (gradineref02_Sub.f k x.1 x.2.1).map fun r => (r, ())⟩
def m_gradineref02_Sub (r : List Int) : TT s_gradineref02_Sub.rs := (r, ())
@[reducible] def q0_gradineref02_Sub : List Slot := [.tmp 5 [.ty (.row 22 (.int .u64))], .tmp 6 [.ty (.row 22 (.int .u64))], .tmp 7 [.own 7 22 (.int .u64)], .tmp 8 [.ty (.int .u64)], .tmp 16 [.ty (.int .i64)], .tmp 17 [.ty (.int .i64)]]
def g0_gradineref02_Sub (k : Nat) (x : TS q0_gradineref02_Sub) : Option (List Int) := gradineref02_Sub.l0 k x.1.1 x.2.1.1 x.2.2.1.1 x.2.2.2.1.1 x.2.2.2.2.1.1 x.2.2.2.2.2.1.1
def c_gradineref02_Sub : Cuts (TT s_gradineref02_Sub.rs) := ⟨42, lookC [(0, ⟨q0_gradineref02_Sub, fun k x => (g0_gradineref02_Sub k x).map m_gradineref02_Sub⟩)], lookC [], lookC []⟩
theorem o_gradineref02_Sub : FOk Try.prog 64 s_gradineref02_Sub :=
 fn_of (Bt := blook [(7, [0, 0, 3, 7, 15, 0, 0, 96, 255, 0, 1023, 2047])]) (l := [(141, s_gradineref02_at), (142, s_gradineref02_Halves), (143, s_gradineref02_Whole)]) (C := c_gradineref02_Sub) (by kernel_rfl) tab_ok ⟨o_gradineref02_at, o_gradineref02_Halves, o_gradineref02_Whole, trivial⟩ (fn := Try.f64) (by kernel_rfl) rfl (by kernel_rfl) (by decide) (by kernel_rfl) (F := fun k x => gradineref02_Sub.f k x.1 x.2.1) (m := m_gradineref02_Sub) (fun k x => rfl)
  (by
   refine And.intro ?_ ?_
   ·refine ob_loop (sl := q0_gradineref02_Sub) (F := g0_gradineref02_Sub) (fun x => rfl) fun k ⟨⟨(x5 : List Int), _⟩, ⟨(x6 : List Int), _⟩, ⟨(x7 : List Int), _⟩, ⟨(x8 : Int), _⟩, ⟨(x16 : Int), _⟩, ⟨(x17 : Int), _⟩, _⟩ => ?_
    show LeT m_gradineref02_Sub (gradineref02_Sub.l0 (k + 1) x5 x6 x7 x8 x16 x17) _
    rw [gradineref02_Sub.l0]; exact go
   exact trivial)
  (fun k ⟨(a0 : List Int), (a1 : List Int), _⟩ => by show LeT m_gradineref02_Sub (gradineref02_Sub.f k a0 a1) _; unfold gradineref02_Sub.f; exact go)
end
section
attribute [local irreducible] gradineref02_Trim.f
def s_gradineref02_Shl : FSpec := ⟨[(.row 22 (.int .u64)), .int .i64], [(.row 22 (.int .u64))], fun k x => (gradineref02_Shl.f k x.1 x.2.1).map fun r => (r, ())⟩
def m_gradineref02_Shl (r : List Int) : TT s_gradineref02_Shl.rs := (r, ())
@[reducible] def q0_gradineref02_Shl : List Slot := [.tmp 0 [.ty (.row 22 (.int .u64))], .tmp 1 [.ty (.int .i64)], .tmp 5 [.own 5 22 (.int .u64)], .tmp 13 [.ty (.int .i64)], .tmp 14 [.ty (.int .i64)]]
def g0_gradineref02_Shl (k : Nat) (x : TS q0_gradineref02_Shl) : Option (List Int) := match x with | ⟨⟨(x0 : List Int), _⟩, ⟨(x1 : Int), _⟩, ⟨(x5 : List Int), _⟩, ⟨(x13 : Int), _⟩, ⟨(x14 : Int), _⟩, _⟩ => if 0 ≤ x1 ∧ x1 ≤ 65536 then gradineref02_Shl.l0 k x0 x1 x5 x13 x14 else none
@[reducible] def q1_gradineref02_Shl : List Slot := [.tmp 0 [.ty (.row 22 (.int .u64))], .tmp 1 [.ty (.int .i64)], .tmp 5 [.own 5 22 (.int .u64)], .tmp 21 [.ty (.int .i64)], .tmp 22 [.ty (.int .i64)]]
def g1_gradineref02_Shl (k : Nat) (x : TS q1_gradineref02_Shl) : Option (List Int) := match x with | ⟨⟨(x0 : List Int), _⟩, ⟨(x1 : Int), _⟩, ⟨(x5 : List Int), _⟩, ⟨(x21 : Int), _⟩, ⟨(x22 : Int), _⟩, _⟩ => if 0 ≤ x1 ∧ x1 ≤ 65536 then gradineref02_Shl.l1 k x0 x1 x5 x21 x22 else none
@[reducible] def q2_gradineref02_Shl : List Slot := [.tmp 5 [.own 5 22 (.int .u64)], .tmp 7 [.ty (.int .u64)], .tmp 8 [.ty (.int .i64)]]
def g2_gradineref02_Shl (k : Nat) (x : TS q2_gradineref02_Shl) : Option (List Int) := match x with | ⟨⟨(x5 : List Int), _⟩, ⟨(x7 : Int), _⟩, ⟨(x8 : Int), _⟩, _⟩ => if 0 ≤ x7 ∧ x7 < 64 then gradineref02_Shl.l2 k x5 x7 x8 else none
def c_gradineref02_Shl : Cuts (TT s_gradineref02_Shl.rs) := ⟨78, lookC [(0, ⟨q0_gradineref02_Shl, fun k x => (g0_gradineref02_Shl k x).map m_gradineref02_Shl⟩), (1, ⟨q1_gradineref02_Shl, fun k x => (g1_gradineref02_Shl k x).map m_gradineref02_Shl⟩), (2, ⟨q2_gradineref02_Shl, fun k x => (g2_gradineref02_Shl k x).map m_gradineref02_Shl⟩)], lookC [], lookC []⟩
theorem o_gradineref02_Shl : FOk Try.prog 66 s_gradineref02_Shl :=
 fn_of (Bt := blook [(19, [0, 0, 0, 0, 12, 28, 0, 124, 0, 0, 512, 1792, 3840, 0, 8192, 32512, 65532, 131071, 262143])]) (l := [(52, s_gradineref02_Trim)]) (C := c_gradineref02_Shl) (by kernel_rfl) tab_ok ⟨o_gradineref02_Trim, trivial⟩ (fn := Try.f66) (by kernel_rfl) rfl (by kernel_rfl) (by decide) (by kernel_rfl) (F := fun k x => gradineref02_Shl.f k x.1 x.2.1) (m := m_gradineref02_Shl) (fun k x => rfl)
  (by
   refine And.intro ?_ ?_
   ·refine ob_loop (sl := q0_gradineref02_Shl) (F := g0_gradineref02_Shl) (fun ⟨⟨(x0 : List Int), _⟩, ⟨(x1 : Int), _⟩, ⟨(x5 : List Int), _⟩, ⟨(x13 : Int), _⟩, ⟨(x14 : Int), _⟩, _⟩ => by show (if 0 ≤ x1 ∧ x1 ≤ 65536 then gradineref02_Shl.l0 0 x0 x1 x5 x13 x14 else none) = none; split <;> rfl) fun k ⟨⟨(x0 : List Int), _⟩, ⟨(x1 : Int), _⟩, ⟨(x5 : List Int), _⟩, ⟨(x13 : Int), _⟩, ⟨(x14 : Int), _⟩, _⟩ => ?_
    show LeT m_gradineref02_Shl (if 0 ≤ x1 ∧ x1 ≤ 65536 then gradineref02_Shl.l0 (k + 1) x0 x1 x5 x13 x14 else none) _
    rw [gradineref02_Shl.l0]; exact go
   refine And.intro ?_ ?_
   ·refine ob_loop (sl := q1_gradineref02_Shl) (F := g1_gradineref02_Shl) (fun ⟨⟨(x0 : List Int), _⟩, ⟨(x1 : Int), _⟩, ⟨(x5 : List Int), _⟩, ⟨(x21 : Int), _⟩, ⟨(x22 : Int), _⟩, _⟩ => by show (if 0 ≤ x1 ∧ x1 ≤ 65536 then gradineref02_Shl.l1 0 x0 x1 x5 x21 x22 else none) = none; split <;> rfl) fun k ⟨⟨(x0 : List Int), _⟩, ⟨(x1 : Int), _⟩, ⟨(x5 : List Int), _⟩, ⟨(x21 : Int), _⟩, ⟨(x22 : Int), _⟩, _⟩ => ?_
    show LeT m_gradineref02_Shl (if 0 ≤ x1 ∧ x1 ≤ 65536 then gradineref02_Shl.l1 (k + 1) x0 x1 x5 x21 x22 else none) _
    rw [gradineref02_Shl.l1]; exact go
   refine And.intro ?_ ?_
   ·refine ob_loop (sl := q2_gradineref02_Shl) (F := g2_gradineref02_Shl) (fun ⟨⟨(x5 : List Int), _⟩, ⟨(x7 : Int), _⟩, ⟨(x8 : Int), _⟩, _⟩ => by show (if 0 ≤ x7 ∧ x7 < 64 then gradineref02_Shl.l2 0 x5 x7 x8 else none) = none; split <;> rfl) fun k ⟨⟨(x5 : List Int), _⟩, ⟨(x7 : Int), _⟩, ⟨(x8 : Int), _⟩, _⟩ => ?_
    show LeT m_gradineref02_Shl (if 0 ≤ x7 ∧ x7 < 64 then gradineref02_Shl.l2 (k + 1) x5 x7 x8 else none) _
    rw [gradineref02_Shl.l2]; exact go
   exact trivial)
  (fun k ⟨(a0 : List Int), (a1 : Int), _⟩ => by show LeT m_gradineref02_Shl (gradineref02_Shl.f k a0 a1) _; unfold gradineref02_Shl.f; exact go)
end
section
attribute [local irreducible] gradineref02_Trim.f
def s_gradineref02_Shr : FSpec := ⟨[(.row 22 (.int .u64)), .int .i64], [(.row 22 (.int .u64))], fun k x => (gradineref02_Shr.f k x.1 x.2.1).map fun r => (r, ())⟩
def m_gradineref02_Shr (r : List Int) : TT s_gradineref02_Shr.rs := (r, ())
@[reducible] def q0_gradineref02_Shr : List Slot := [.tmp 0 [.ty (.row 22 (.int .u64))], .tmp 1 [.ty (.int .i64)], .tmp 5 [.own 5 22 (.int .u64)], .tmp 6 [.ty (.int .i64)]]
def g0_gradineref02_Shr (k : Nat) (x : TS q0_gradineref02_Shr) : Option (List Int) := match x with | ⟨⟨(x0 : List Int), _⟩, ⟨(x1 : Int), _⟩, ⟨(x5 : List Int), _⟩, ⟨(x6 : Int), _⟩, _⟩ => if 0 ≤ x1 then gradineref02_Shr.l0 k x0 x1 x5 x6 else none
@[reducible] def q1_gradineref02_Shr : List Slot := [.tmp 5 [.own 5 22 (.int .u64)], .tmp 7 [.ty (.int .u64)], .tmp 35 [.ty (.int .i64)], .tmp 36 [.ty (.int .i64)]]
def g1_gradineref02_Shr (k : Nat) (x : TS q1_gradineref02_Shr) : Option (List Int) := match x with | ⟨⟨(x5 : List Int), _⟩, ⟨(x7 : Int), _⟩, ⟨(x35 : Int), _⟩, ⟨(x36 : Int), _⟩, _⟩ => if 0 ≤ x7 ∧ x7 < 64 then gradineref02_Shr.l1 k x5 x7 x35 x36 else none
def c_gradineref02_Shr : Cuts (TT s_gradineref02_Shr.rs) := ⟨72, lookC [(0, ⟨q0_gradineref02_Shr, fun k x => (g0_gradineref02_Shr k x).map m_gradineref02_Shr⟩), (1, ⟨q1_gradineref02_Shr, fun k x => (g1_gradineref02_Shr k x).map m_gradineref02_Shr⟩)], lookC [], lookC []⟩
theorem o_gradineref02_Shr : FOk Try.prog 67 s_gradineref02_Shr :=
 fn_of (Bt := blook [(15, [0, 0, 0, 0, 12, 28, 0, 0, 128, 448, 960, 0, 2048, 8128, 16380, 32767, 65535])]) (l := [(52, s_gradineref02_Trim)]) (C := c_gradineref02_Shr) (by kernel_rfl) tab_ok ⟨o_gradineref02_Trim, trivial⟩ (fn := Try.f67) (by kernel_rfl) rfl (by kernel_rfl) (by decide) (by kernel_rfl) (F := fun k x => gradineref02_Shr.f k x.1 x.2.1) (m := m_gradineref02_Shr) (fun k x => rfl)
  (by
   refine And.intro ?_ ?_
   ·refine ob_loop (sl := q0_gradineref02_Shr) (F := g0_gradineref02_Shr) (fun ⟨⟨(x0 : List Int), _⟩, ⟨(x1 : Int), _⟩, ⟨(x5 : List Int), _⟩, ⟨(x6 : Int), _⟩, _⟩ => by show (if 0 ≤ x1 then gradineref02_Shr.l0 0 x0 x1 x5 x6 else none) = none; split <;> rfl) fun k ⟨⟨(x0 : List Int), _⟩, ⟨(x1 : Int), _⟩, ⟨(x5 : List Int), _⟩, ⟨(x6 : Int), _⟩, _⟩ => ?_
    show LeT m_gradineref02_Shr (if 0 ≤ x1 then gradineref02_Shr.l0 (k + 1) x0 x1 x5 x6 else none) _
    rw [gradineref02_Shr.l0]; exact go
   refine And.intro ?_ ?_
   ·refine ob_loop (sl := q1_gradineref02_Shr) (F := g1_gradineref02_Shr) (fun ⟨⟨(x5 : List Int), _⟩, ⟨(x7 : Int), _⟩, ⟨(x35 : Int), _⟩, ⟨(x36 : Int), _⟩, _⟩ => by show (if 0 ≤ x7 ∧ x7 < 64 then gradineref02_Shr.l1 0 x5 x7 x35 x36 else none) = none; split <;> rfl) fun k ⟨⟨(x5 : List Int), _⟩, ⟨(x7 : Int), _⟩, ⟨(x35 : Int), _⟩, ⟨(x36 : Int), _⟩, _⟩ => ?_
    show LeT m_gradineref02_Shr (if 0 ≤ x7 ∧ x7 < 64 then gradineref02_Shr.l1 (k + 1) x5 x7 x35 x36 else none) _
    rw [gradineref02_Shr.l1]; exact go
   exact trivial)
  (fun k ⟨(a0 : List Int), (a1 : Int), _⟩ => by show LeT m_gradineref02_Shr (gradineref02_Shr.f k a0 a1) _; unfold gradineref02_Shr.f; exact go)
end
section
attribute [local irreducible] gradineref02_Trim.f gradineref02_Cmp.f gradineref02_Even.f gradineref02_Sub.f gradineref02_Shl.f gradineref02_Shr.f gradineref02_Size.f
def s_gradineref05_Gcd : FSpec := ⟨[(.row 22 (.int .u64)), (.row 22 (.int .u64))], [(.row 22 (.int .u64))], fun k x => (gradineref05_Gcd.f k x.1 x.2.1).map fun r => (r, ())⟩
def m_gradineref05_Gcd (r : List Int) : TT s_gradineref05_Gcd.rs := (r, ())
@[reducible] def q0_gradineref05_Gcd : List Slot := [.tmp 0 [.ty (.row 22 (.int .u64))], .tmp 1 [.ty (.row 22 (.int .u64))], .tmp 28 [.ty .bool]]
def g0_gradineref05_Gcd (k : Nat) (x : TS q0_gradineref05_Gcd) : Option (List Int) := gradineref05_Gcd.j0 k x.1.1 x.2.1.1 x.2.2.1.1
@[reducible] def q1_gradineref05_Gcd : List Slot := [.tmp 5 [.ty (.int .u64)], .tmp 6 [.ty (.int .u64)]]
def g1_gradineref05_Gcd (k : Nat) (x : TS q1_gradineref05_Gcd) : Option (List Int) := gradineref05_Gcd.l0 k x.1.1 x.2.1.1
@[reducible] def q2_gradineref05_Gcd : List Slot := [.tmp 7 [.ty (.int .i64)], .tmp 8 [.ty (.row 22 (.int .u64))], .tmp 9 [.ty (.row 22 (.int .u64))]]
def g2_gradineref05_Gcd (k : Nat) (x : TS q2_gradineref05_Gcd) : Option (List Int) := gradineref05_Gcd.l1 k x.1.1 x.2.1.1 x.2.2.1.1
def c_gradineref05_Gcd : Cuts (TT s_gradineref05_Gcd.rs) := ⟨75, lookC [(0, ⟨q1_gradineref05_Gcd, fun k x => (g1_gradineref05_Gcd k x).map m_gradineref05_Gcd⟩), (1, ⟨q2_gradineref05_Gcd, fun k x => (g2_gradineref05_Gcd k x).map m_gradineref05_Gcd⟩)], lookC [], lookC [(5, ⟨q0_gradineref05_Gcd, fun k x => (g0_gradineref05_Gcd k x).map m_gradineref05_Gcd⟩)]⟩
theorem o_gradineref05_Gcd : FOk Try.prog 91 s_gradineref05_Gcd :=
 fn_of (Bt := blook [(6, [0, 1, 3, 0, 8, 24, 7, 127]), (8, [0, 0, 0, 6, 3, 31])]) (l := [(52, s_gradineref02_Trim), (57, s_gradineref02_Cmp), (61, s_gradineref02_Even), (64, s_gradineref02_Sub), (66, s_gradineref02_Shl), (67, s_gradineref02_Shr), (83, s_gradineref02_Size)]) (C := c_gradineref05_Gcd) (by kernel_rfl) tab_ok ⟨o_gradineref02_Trim, o_gradineref02_Cmp, o_gradineref02_Even, o_gradineref02_Sub, o_gradineref02_Shl, o_gradineref02_Shr, o_gradineref02_Size, trivial⟩ (fn := Try.f91) (by kernel_rfl) rfl (by kernel_rfl) (by decide) (by kernel_rfl) (F := fun k x => gradineref05_Gcd.f k x.1 x.2.1) (m := m_gradineref05_Gcd) (fun k x => rfl)
  (by
   refine And.intro ?_ ?_
   ·refine ob_join1 (sl := q0_gradineref05_Gcd) (F := g0_gradineref05_Gcd) (fun x => rfl) fun k ⟨⟨(x0 : List Int), _⟩, ⟨(x1 : List Int), _⟩, ⟨(x28 : Bool), _⟩, _⟩ => ?_
    show LeT m_gradineref05_Gcd (gradineref05_Gcd.j0 (k + 1) x0 x1 x28) _
    rw [gradineref05_Gcd.j0]; exact go
   refine And.intro ?_ ?_
   ·refine ob_loop (sl := q1_gradineref05_Gcd) (F := g1_gradineref05_Gcd) (fun x => rfl) fun k ⟨⟨(x5 : Int), _⟩, ⟨(x6 : Int), _⟩, _⟩ => ?_
    show LeT m_gradineref05_Gcd (gradineref05_Gcd.l0 (k + 1) x5 x6) _
    rw [gradineref05_Gcd.l0]; exact go
   refine And.intro ?_ ?_
   ·refine ob_loop (sl := q2_gradineref05_Gcd) (F := g2_gradineref05_Gcd) (fun x => rfl) fun k ⟨⟨(x7 : Int), _⟩, ⟨(x8 : List Int), _⟩, ⟨(x9 : List Int), _⟩, _⟩ => ?_
    show LeT m_gradineref05_Gcd (gradineref05_Gcd.l1 (k + 1) x7 x8 x9) _
    rw [gradineref05_Gcd.l1]; exact go
   exact trivial)
  (fun k ⟨(a0 : List Int), (a1 : List Int), _⟩ => by show LeT m_gradineref05_Gcd (gradineref05_Gcd.f k a0 a1) _; unfold gradineref05_Gcd.f; exact go)
end
section
attribute [local irreducible] gradineref02_Right.f gradineref02_Cmp.f gradineref05_Gcd.f
def s_gradineref07_Right : FSpec := ⟨[(.cons .bool (.cons (.row 22 (.int .u64)) (.row 22 (.int .u64))))], [.bool], fun k x => (gradineref07_Right.f k x.1.1 x.1.2.1 x.1.2.2).map fun r => (r, ())⟩
def m_gradineref07_Right (r : Bool) : TT s_gradineref07_Right.rs := (r, ())
theorem o_gradineref07_Right : FOk Try.prog 105 s_gradineref07_Right :=
 fn_of (Bt := blook []) (l := [(55, s_gradineref02_Right), (57, s_gradineref02_Cmp), (91, s_gradineref05_Gcd)]) (C := noCuts) (by kernel_rfl) tab_ok ⟨o_gradineref02_Right, o_gradineref02_Cmp, o_gradineref05_Gcd, trivial⟩ (fn := Try.f105) (by kernel_rfl) rfl (by kernel_rfl) (by decide) (by kernel_rfl) (F := fun k x => gradineref07_Right.f k x.1.1 x.1.2.1 x.1.2.2) (m := m_gradineref07_Right) (fun k x => rfl)
  (by exact trivial)
  (fun k ⟨(a0 : Bool × List Int × List Int), _⟩ => by show LeT m_gradineref07_Right (gradineref07_Right.f k a0.1 a0.2.1 a0.2.2) _; unfold gradineref07_Right.f; unfold gradineref07_Right.j0; exact go)
end
section
attribute [local irreducible] gradineplain_Long.f gradineref07_Right.f
def s_gradinelaw08_right : FSpec := ⟨[(.cons .bool (.cons (.row 22 (.int .u64)) (.row 22 (.int .u64)))), .int .i64], [.bool], fun k x => (gradinelaw08_right.f k x.1.1 x.1.2.1 x.1.2.2 x.2.1).map fun r => (r, ())⟩
def m_gradinelaw08_right (r : Bool) : TT s_gradinelaw08_right.rs := (r, ())
theorem o_gradinelaw08_right : FOk Try.prog 124 s_gradinelaw08_right :=
 fn_of (Bt := blook []) (l := [(97, s_gradineplain_Long), (105, s_gradineref07_Right)]) (C := noCuts) (by kernel_rfl) tab_ok ⟨o_gradineplain_Long, o_gradineref07_Right, trivial⟩ (fn := Try.f124) (by kernel_rfl) rfl (by kernel_rfl) (by decide) (by kernel_rfl) (F := fun k x => gradinelaw08_right.f k x.1.1 x.1.2.1 x.1.2.2 x.2.1) (m := m_gradinelaw08_right) (fun k x => rfl)
  (by exact trivial)
  (fun k ⟨(a0 : Bool × List Int × List Int), (a1 : Int), _⟩ => by show LeT m_gradinelaw08_right (gradinelaw08_right.f k a0.1 a0.2.1 a0.2.2 a1) _; unfold gradinelaw08_right.f; exact go)
end
section
attribute [local irreducible] nat_Bits.f rat_lowest.f
def s_rat_Make : FSpec := ⟨[.bool, (.row 22 (.int .u64)), (.row 22 (.int .u64))], [(.cons .bool (.cons (.row 22 (.int .u64)) (.row 22 (.int .u64)))), .int .i64], fun k x => (rat_Make.f k x.1 x.2.1 x.2.2.1).map fun r => ((r.1, r.2.1, r.2.2.1), r.2.2.2, ())⟩
def m_rat_Make (r : Bool × List Int × List Int × Int) : TT s_rat_Make.rs := ((r.1, r.2.1, r.2.2.1), r.2.2.2, ())
theorem o_rat_Make : FOk Try.prog 99 s_rat_Make :=
 fn_of (Bt := blook []) (l := [(49, s_nat_Bits), (153, s_rat_lowest)]) (C := noCuts) (by kernel_rfl) tab_ok ⟨o_nat_Bits, o_rat_lowest, trivial⟩ (fn := Try.f99) (by kernel_rfl) rfl (by kernel_rfl) (by decide) (by kernel_rfl) (F := fun k x => rat_Make.f k x.1 x.2.1 x.2.2.1) (m := m_rat_Make) (fun k x => rfl)
  (by exact trivial)
  (fun k ⟨(a0 : Bool), (a1 : List Int), (a2 : List Int), _⟩ => by show LeT m_rat_Make (rat_Make.f k a0 a1 a2) _; unfold rat_Make.f; exact go)
end
section
def s_power_cut : FSpec := ⟨[.str], [.str, .str], fun k x => (power_cut.f k x.1).map fun r => (r.1, r.2, ())⟩
def m_power_cut (r : ByteArray × ByteArray) : TT s_power_cut.rs := (r.1, r.2, ())
@[reducible] def q0_power_cut : List Slot := [.tmp 0 [.ty .str], .tmp 6 [.ty (.int .i64)], .tmp 7 [.ty (.int .i64)]]
def g0_power_cut (k : Nat) (x : TS q0_power_cut) : Option (ByteArray × ByteArray) := power_cut.l0 k x.1.1 x.2.1.1 x.2.2.1.1
def c_power_cut : Cuts (TT s_power_cut.rs) := ⟨23, lookC [(0, ⟨q0_power_cut, fun k x => (g0_power_cut k x).map m_power_cut⟩)], lookC [], lookC []⟩
theorem o_power_cut : FOk Try.prog 159 s_power_cut :=
 fn_of (Bt := blook [(5, [0, 0, 3, 0, 0, 16, 56, 7, 255])]) (l := []) (C := c_power_cut) (by kernel_rfl) tab_ok trivial (fn := Try.f159) (by kernel_rfl) rfl (by kernel_rfl) (by decide) (by kernel_rfl) (F := fun k x => power_cut.f k x.1) (m := m_power_cut) (fun k x => rfl)
  (by
   refine And.intro ?_ ?_
   ·refine ob_loop (sl := q0_power_cut) (F := g0_power_cut) (fun x => rfl) fun k ⟨⟨(x0 : ByteArray), _⟩, ⟨(x6 : Int), _⟩, ⟨(x7 : Int), _⟩, _⟩ => ?_
    show LeT m_power_cut (power_cut.l0 (k + 1) x0 x6 x7) _
    rw [power_cut.l0]; exact go
   exact trivial)
  (fun k ⟨(a0 : ByteArray), _⟩ => by show LeT m_power_cut (power_cut.f k a0) _; unfold power_cut.f; exact go)
end
section
attribute [local irreducible] digit_Read.f rat_Make.f power_cut.f
def s_power_Read : FSpec := ⟨[.str], [(.cons .bool (.cons (.row 22 (.int .u64)) (.row 22 (.int .u64)))), .int .i64], fun k x => (power_Read.f k x.1).map fun r => ((r.1, r.2.1, r.2.2.1), r.2.2.2, ())⟩
def m_power_Read (r : Bool × List Int × List Int × Int) : TT s_power_Read.rs := ((r.1, r.2.1, r.2.2.1), r.2.2.2, ())
theorem o_power_Read : FOk Try.prog 126 s_power_Read :=
 fn_of (Bt := blook []) (l := [(73, s_digit_Read), (99, s_rat_Make), (159, s_power_cut)]) (C := noCuts) (by kernel_rfl) tab_ok ⟨o_digit_Read, o_rat_Make, o_power_cut, trivial⟩ (fn := Try.f126) (by kernel_rfl) rfl (by kernel_rfl) (by decide) (by kernel_rfl) (F := fun k x => power_Read.f k x.1) (m := m_power_Read) (fun k x => rfl)
  (by exact trivial)
  (fun k ⟨(a0 : ByteArray), _⟩ => by show LeT m_power_Read (power_Read.f k a0) _; unfold power_Read.f; unfold power_Read.j0; unfold power_Read.j1; exact goq)
end
section
attribute [local irreducible] nat_Word.f digit_Show.f rat_Sign.f
def s_power_Show : FSpec := ⟨[(.cons .bool (.cons (.row 22 (.int .u64)) (.row 22 (.int .u64))))], [.str], fun k x => (power_Show.f k x.1.1 x.1.2.1 x.1.2.2).map fun r => (r, ())⟩
def m_power_Show (r : ByteArray) : TT s_power_Show.rs := (r, ())
theorem o_power_Show : FOk Try.prog 128 s_power_Show :=
 fn_of (Bt := blook []) (l := [(51, s_nat_Word), (75, s_digit_Show), (122, s_rat_Sign)]) (C := noCuts) (by kernel_rfl) tab_ok ⟨o_nat_Word, o_digit_Show, o_rat_Sign, trivial⟩ (fn := Try.f128) (by kernel_rfl) rfl (by kernel_rfl) (by decide) (by kernel_rfl) (F := fun k x => power_Show.f k x.1.1 x.1.2.1 x.1.2.2) (m := m_power_Show) (fun k x => rfl)
  (by exact trivial)
  (fun k ⟨(a0 : Bool × List Int × List Int), _⟩ => by show LeT m_power_Show (power_Show.f k a0.1 a0.2.1 a0.2.2) _; unfold power_Show.f; unfold power_Show.j0; exact goq)
end
section
attribute [local irreducible] nat_Of.f
def s_prod_Pow : FSpec := ⟨[(.row 22 (.int .u64)), .int .i64], [(.row 22 (.int .u64))], fun k x => (prod_Pow.f k x.1 x.2.1).map fun r => (r, ())⟩
def m_prod_Pow (r : List Int) : TT s_prod_Pow.rs := (r, ())
@[reducible] def q0_prod_Pow : List Slot := [.tmp 0 [.ty (.row 22 (.int .u64))], .tmp 1 [.ty (.int .i64)], .tmp 5 [.ty (.row 22 (.int .u64))], .tmp 6 [.ty (.int .i64)]]
def g0_prod_Pow (k : Nat) (x : TS q0_prod_Pow) : Option (List Int) := prod_Pow.l0 k x.1.1 x.2.1.1 x.2.2.1.1 x.2.2.2.1.1
def c_prod_Pow : Cuts (TT s_prod_Pow.rs) := ⟨26, lookC [(0, ⟨q0_prod_Pow, fun k x => (g0_prod_Pow k x).map m_prod_Pow⟩)], lookC [], lookC []⟩
theorem o_prod_Pow : FOk Try.prog 69 s_prod_Pow :=
 fn_of (Bt := blook []) (l := [(53, s_nat_Of), (71, s_prod_Mul)]) (C := c_prod_Pow) (by kernel_rfl) tab_ok ⟨o_nat_Of, o_prod_Mul, trivial⟩ (fn := Try.f69) (by kernel_rfl) rfl (by kernel_rfl) (by decide) (by kernel_rfl) (F := fun k x => prod_Pow.f k x.1 x.2.1) (m := m_prod_Pow) (fun k x => rfl)
  (by
   refine And.intro ?_ ?_
   ·refine ob_loop (sl := q0_prod_Pow) (F := g0_prod_Pow) (fun x => rfl) fun k ⟨⟨(x0 : List Int), _⟩, ⟨(x1 : Int), _⟩, ⟨(x5 : List Int), _⟩, ⟨(x6 : Int), _⟩, _⟩ => ?_
    show LeT m_prod_Pow (prod_Pow.l0 (k + 1) x0 x1 x5 x6) _
    rw [prod_Pow.l0]; exact go
   exact trivial)
  (fun k ⟨(a0 : List Int), (a1 : Int), _⟩ => by show LeT m_prod_Pow (prod_Pow.f k a0 a1) _; unfold prod_Pow.f; exact go)
end
section
attribute [local irreducible] nat_Trim.f nat_Bits.f
def s_rat_Inv : FSpec := ⟨[(.cons .bool (.cons (.row 22 (.int .u64)) (.row 22 (.int .u64))))], [(.cons .bool (.cons (.row 22 (.int .u64)) (.row 22 (.int .u64)))), .int .i64], fun k x => (rat_Inv.f k x.1.1 x.1.2.1 x.1.2.2).map fun r => ((r.1, r.2.1, r.2.2.1), r.2.2.2, ())⟩
def m_rat_Inv (r : Bool × List Int × List Int × Int) : TT s_rat_Inv.rs := ((r.1, r.2.1, r.2.2.1), r.2.2.2, ())
theorem o_rat_Inv : FOk Try.prog 109 s_rat_Inv :=
 fn_of (Bt := blook [(3, [0, 1, 0, 4, 12, 0, 32, 124, 255, 511, 1023])]) (l := [(48, s_nat_Trim), (49, s_nat_Bits)]) (C := noCuts) (by kernel_rfl) tab_ok ⟨o_nat_Trim, o_nat_Bits, trivial⟩ (fn := Try.f109) (by kernel_rfl) rfl (by kernel_rfl) (by decide) (by kernel_rfl) (F := fun k x => rat_Inv.f k x.1.1 x.1.2.1 x.1.2.2) (m := m_rat_Inv) (fun k x => rfl)
  (by exact trivial)
  (fun k ⟨(a0 : Bool × List Int × List Int), _⟩ => by show LeT m_rat_Inv (rat_Inv.f k a0.1 a0.2.1 a0.2.2) _; unfold rat_Inv.f; exact go)
end
section
attribute [local irreducible] prod_Pow.f rat_Inv.f
def s_power_Pow : FSpec := ⟨[(.cons .bool (.cons (.row 22 (.int .u64)) (.row 22 (.int .u64)))), .int .i64], [(.cons .bool (.cons (.row 22 (.int .u64)) (.row 22 (.int .u64)))), .int .i64], fun k x => (power_Pow.f k x.1.1 x.1.2.1 x.1.2.2 x.2.1).map fun r => ((r.1, r.2.1, r.2.2.1), r.2.2.2, ())⟩
def m_power_Pow (r : Bool × List Int × List Int × Int) : TT s_power_Pow.rs := ((r.1, r.2.1, r.2.2.1), r.2.2.2, ())
theorem h_power_Pow (k : Nat) (ih : ∀ j, j ≤ k → FnOk Try.prog 130 s_power_Pow j) : FnOk Try.prog 130 s_power_Pow (k + 1) :=
 fn_ofK (s := s_power_Pow) (Bt := blook []) (l := [(69, s_prod_Pow), (109, s_rat_Inv), (130, s_power_Pow)]) (C := noCuts) (k := k) (by kernel_rfl) tab_ok ⟨⟨o_prod_Pow.1, fun j _ => o_prod_Pow.2 j⟩, ⟨o_rat_Inv.1, fun j _ => o_rat_Inv.2 j⟩, ⟨by kernel_rfl, ih⟩, trivial⟩ (fn := Try.f130) (by kernel_rfl) rfl (by kernel_rfl) (by decide) (F := fun x => power_Pow.f (k + 1) x.1.1 x.1.2.1 x.1.2.2 x.2.1) (m := m_power_Pow) (fun x => rfl)
  (by exact trivial)
  (fun ⟨(a0 : Bool × List Int × List Int), (a1 : Int), _⟩ => by show LeT m_power_Pow (power_Pow.f (k + 1) a0.1 a0.2.1 a0.2.2 a1) _; rw [power_Pow.f]; unfold power_Pow.j0; exact goq)
theorem b_power_Pow : ∀ k j, j ≤ k → FnOk Try.prog 130 s_power_Pow j
 | 0, j, hj => by
  obtain rfl : j = 0 := by omega
  intro x r h
  cases h
 | k + 1, j, hj => by
  rcases Nat.lt_or_ge j (k + 1) with h | h
  ·exact b_power_Pow k j (by omega)
  ·obtain rfl : j = k + 1 := by omega
   exact h_power_Pow k (b_power_Pow k)
theorem o_power_Pow : FOk Try.prog 130 s_power_Pow := ⟨by kernel_rfl, fun k => b_power_Pow k k (Nat.le_refl k)⟩
end
section
attribute [local irreducible] nat_Bits.f
def s_power_Bits : FSpec := ⟨[(.cons .bool (.cons (.row 22 (.int .u64)) (.row 22 (.int .u64))))], [.int .i64], fun k x => (power_Bits.f k x.1.1 x.1.2.1 x.1.2.2).map fun r => (r, ())⟩
def m_power_Bits (r : Int) : TT s_power_Bits.rs := (r, ())
theorem o_power_Bits : FOk Try.prog 132 s_power_Bits :=
 fn_of (Bt := blook [(1, [0, 1, 3, 0, 8, 31, 63, 127])]) (l := [(49, s_nat_Bits)]) (C := noCuts) (by kernel_rfl) tab_ok ⟨o_nat_Bits, trivial⟩ (fn := Try.f132) (by kernel_rfl) rfl (by kernel_rfl) (by decide) (by kernel_rfl) (F := fun k x => power_Bits.f k x.1.1 x.1.2.1 x.1.2.2) (m := m_power_Bits) (fun k x => rfl)
  (by exact trivial)
  (fun k ⟨(a0 : Bool × List Int × List Int), _⟩ => by show LeT m_power_Bits (power_Bits.f k a0.1 a0.2.1 a0.2.2) _; unfold power_Bits.f; exact go)
end
section
attribute [local irreducible] power_Read.f power_Show.f power_Bits.f
def s_gradinelaw08_same : FSpec := ⟨[], [.bool], fun k _ => (gradinelaw08_same.f k).map fun r => (r, ())⟩
def m_gradinelaw08_same (r : Bool) : TT s_gradinelaw08_same.rs := (r, ())
theorem o_gradinelaw08_same : FOk Try.prog 125 s_gradinelaw08_same :=
 fn_of (Bt := blook []) (l := [(126, s_power_Read), (128, s_power_Show), (130, s_power_Pow), (132, s_power_Bits)]) (C := noCuts) (by kernel_rfl) tab_ok ⟨o_power_Read, o_power_Show, o_power_Pow, o_power_Bits, trivial⟩ (fn := Try.f125) (by kernel_rfl) rfl (by kernel_rfl) (by decide) (by kernel_rfl) (F := fun k x => gradinelaw08_same.f k) (m := m_gradinelaw08_same) (fun k x => rfl)
  (by exact trivial)
  (fun k x => by show LeT m_gradinelaw08_same (gradinelaw08_same.f k) _; unfold gradinelaw08_same.f; exact go)
end
section
attribute [local irreducible] rat_Neg.f rat_Sign.f
def s_power_Abs : FSpec := ⟨[(.cons .bool (.cons (.row 22 (.int .u64)) (.row 22 (.int .u64))))], [(.cons .bool (.cons (.row 22 (.int .u64)) (.row 22 (.int .u64))))], fun k x => (power_Abs.f k x.1.1 x.1.2.1 x.1.2.2).map fun r => ((r.1, r.2.1, r.2.2), ())⟩
def m_power_Abs (r : Bool × List Int × List Int) : TT s_power_Abs.rs := ((r.1, r.2.1, r.2.2), ())
theorem o_power_Abs : FOk Try.prog 134 s_power_Abs :=
 fn_of (Bt := blook []) (l := [(118, s_rat_Neg), (122, s_rat_Sign)]) (C := noCuts) (by kernel_rfl) tab_ok ⟨o_rat_Neg, o_rat_Sign, trivial⟩ (fn := Try.f134) (by kernel_rfl) rfl (by kernel_rfl) (by decide) (by kernel_rfl) (F := fun k x => power_Abs.f k x.1.1 x.1.2.1 x.1.2.2) (m := m_power_Abs) (fun k x => rfl)
  (by exact trivial)
  (fun k ⟨(a0 : Bool × List Int × List Int), _⟩ => by show LeT m_power_Abs (power_Abs.f k a0.1 a0.2.1 a0.2.2) _; unfold power_Abs.f; exact go)
end
section
attribute [local irreducible] nat_Of.f nat_Add.f quot_Div.f rat_Of.f
def s_power_Floor : FSpec := ⟨[(.cons .bool (.cons (.row 22 (.int .u64)) (.row 22 (.int .u64))))], [(.cons .bool (.cons (.row 22 (.int .u64)) (.row 22 (.int .u64))))], fun k x => (power_Floor.f k x.1.1 x.1.2.1 x.1.2.2).map fun r => ((r.1, r.2.1, r.2.2), ())⟩
def m_power_Floor (r : Bool × List Int × List Int) : TT s_power_Floor.rs := ((r.1, r.2.1, r.2.2), ())
theorem o_power_Floor : FOk Try.prog 136 s_power_Floor :=
 fn_of (Bt := blook []) (l := [(53, s_nat_Of), (63, s_nat_Add), (81, s_quot_Div), (103, s_rat_Of)]) (C := noCuts) (by kernel_rfl) tab_ok ⟨o_nat_Of, o_nat_Add, o_quot_Div, o_rat_Of, trivial⟩ (fn := Try.f136) (by kernel_rfl) rfl (by kernel_rfl) (by decide) (by kernel_rfl) (F := fun k x => power_Floor.f k x.1.1 x.1.2.1 x.1.2.2) (m := m_power_Floor) (fun k x => rfl)
  (by exact trivial)
  (fun k ⟨(a0 : Bool × List Int × List Int), _⟩ => by show LeT m_power_Floor (power_Floor.f k a0.1 a0.2.1 a0.2.2) _; unfold power_Floor.f; unfold power_Floor.j0; exact goq)
end
end Go.Proofs.Ytldcgclbgbhffaa.A
