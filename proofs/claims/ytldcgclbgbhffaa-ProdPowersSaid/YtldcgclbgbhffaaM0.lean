/- Words of 64 bits as whole numbers: what wraps, masks and shifts come to. -/
import Derived.Laws.BitsLemmas
import Derived.Test.YtldcgclbgbhffaaWW
namespace Go.Proofs.Ytldcgclbgbhffaa.M
open Go.RowKit Go.Proofs.YtldcgclbgbhffaaW.PrintWords Go.Proofs.YtldcgclbgbhffaaW.PrintLast Go.Proofs.YtldcgclbgbhffaaW.PrintMore
set_option linter.unusedVariables false

theorem wu (n : Int) : IntKind.u64.wrap n = n % 18446744073709551616 := by simp [IntKind.wrap, IntKind.bits, IntKind.signed]
theorem wu_id {n : Int} (h0 : 0 ≤ n) (h1 : n < 18446744073709551616) : IntKind.u64.wrap n = n := by rw [wu]; omega
theorem w64_id {n : Int} (h0 : -9223372036854775808 ≤ n) (h1 : n ≤ 9223372036854775807) : wrap64 n = n := by unfold wrap64; omega
theorem wu_fits : ∀ n : Int, 0 ≤ n → n < 2 ^ 64 → IntKind.u64.wrap n = n := fun n h0 h1 => wu_id h0 (by omega)
theorem wf_u64 {x : Int} (h : (Lit.int .u64 x).wf = true) : 0 ≤ x ∧ x < 18446744073709551616 := by
  simp [Lit.wf, Go.IntKind.min, IntKind.max, IntKind.bits, IntKind.signed] at h
  omega
theorem wf_i64 {x : Int} (h : (Lit.int .i64 x).wf = true) : -9223372036854775808 ≤ x ∧ x ≤ 9223372036854775807 := by
  simp [Lit.wf, Go.IntKind.min, IntKind.max, IntKind.bits, IntKind.signed] at h
  omega

theorem and_mask (i : Nat) (hi : i ≤ 64) (x : Int) (h0 : 0 ≤ x) (h1 : x < 18446744073709551616) : Go.bits .and .u64 x (2 ^ i - 1) = x % 2 ^ i :=
  bits_mask .u64 64 (by decide) wu_fits i hi x h0 (by omega)
theorem and32 (x : Int) (h0 : 0 ≤ x) (h1 : x < 18446744073709551616) : Go.bits .and .u64 x 4294967295 = x % 4294967296 := and_mask 32 (by decide) x h0 h1
theorem and1 (x : Int) (h0 : 0 ≤ x) (h1 : x < 18446744073709551616) : Go.bits .and .u64 x 1 = x % 2 := and_mask 1 (by decide) x h0 h1
theorem and52 (x : Int) (h0 : 0 ≤ x) (h1 : x < 18446744073709551616) : Go.bits .and .u64 x 4503599627370495 = x % 4503599627370496 := and_mask 52 (by decide) x h0 h1
theorem and11 (x : Int) (h0 : 0 ≤ x) (h1 : x < 18446744073709551616) : Go.bits .and .u64 x 2047 = x % 2048 := and_mask 11 (by decide) x h0 h1
/-- A number with i bits 0 below, and one of i bits: put together. -/
theorem or_join (i : Nat) (x y : Int) (hx0 : 0 ≤ x) (hx : x % 2 ^ i = 0) (hx1 : x < 18446744073709551616) (hy0 : 0 ≤ y) (hy : y < 2 ^ i) (hy1 : y < 18446744073709551616) : Go.bits .or .u64 x y = x + y :=
  bits_join .u64 64 (by decide) wu_fits i x y hx0 hx (by omega) hy0 hy (by omega)
theorem or_nat (a b : Nat) (ha : a < 2 ^ 64) (hb : b < 2 ^ 64) : Go.bits .or .u64 a b = ((a ||| b : Nat) : Int) := (bits_nat .u64 64 (by decide) wu_fits a b ha hb).2
theorem and_nat (a b : Nat) (ha : a < 2 ^ 64) (hb : b < 2 ^ 64) : Go.bits .and .u64 a b = ((a &&& b : Nat) : Int) := (bits_nat .u64 64 (by decide) wu_fits a b ha hb).1
theorem or_comm (x y : Int) (hx0 : 0 ≤ x) (hx1 : x < 18446744073709551616) (hy0 : 0 ≤ y) (hy1 : y < 18446744073709551616) : Go.bits .or .u64 x y = Go.bits .or .u64 y x := by
  obtain ⟨a, rfl⟩ := Int.eq_ofNat_of_zero_le hx0
  obtain ⟨b, rfl⟩ := Int.eq_ofNat_of_zero_le hy0
  rw [or_nat a b (by omega) (by omega), or_nat b a (by omega) (by omega), Nat.or_comm]

theorem shr_u (x y : Int) (h : y ≤ 64) : shr .u64 x y = x / 2 ^ y.toNat := by
  unfold shr
  rw [show IntKind.bits .u64 = 64 from rfl, Nat.min_eq_left (by omega)]
theorem shl_u (x y : Int) (h : y ≤ 64) : shl .u64 x y = x * 2 ^ y.toNat % 18446744073709551616 := by
  unfold shl
  rw [wu, show IntKind.bits .u64 = 64 from rfl, Nat.min_eq_left (by omega)]

/-! ### From some number of rounds on -/
theorem _root_.Go.Proofs.YtldcgclbgbhffaaW.PrintWords.Ev.ifp {α : Type} {c : Prop} [Decidable c] {f g : Nat → Option α} {r : α} (h : c) (k : Ev f r) : Ev (fun n => if c then f n else g n) r := by
  obtain ⟨K, k⟩ := k
  exact ⟨K, fun n hn => (if_pos h).trans (k n hn)⟩
theorem _root_.Go.Proofs.YtldcgclbgbhffaaW.PrintWords.Ev.ifn {α : Type} {c : Prop} [Decidable c] {f g : Nat → Option α} {r : α} (h : ¬ c) (k : Ev g r) : Ev (fun n => if c then f n else g n) r := by
  obtain ⟨K, k⟩ := k
  exact ⟨K, fun n hn => (if_neg h).trans (k n hn)⟩
/-- What is told without rounds. -/
theorem _root_.Go.Proofs.YtldcgclbgbhffaaW.PrintWords.Ev.same {α : Type} {x : Option α} {r : α} (h : x = some r) : Ev (fun _ => x) r := ⟨0, fun _ _ => h⟩
theorem _root_.Go.Proofs.YtldcgclbgbhffaaW.PrintWords.Ev.eqr {α : Type} {g : Nat → Option α} {r r' : α} (h : Ev g r) (e : r = r') : Ev g r' := e ▸ h
/-- A call without rounds, and what follows. -/
theorem _root_.Go.Proofs.YtldcgclbgbhffaaW.PrintWords.Ev.bindc {α β : Type} {x : Option α} {f : Nat → α → Option β} {a : α} {r : β} (h : x = some a) (k : Ev (fun n => f n a) r) : Ev (fun n => x.bind (f n)) r := Ev.bind (Ev.same h) k

/-! ### How many bits a number has -/
def bl (x : Int) : Int := if x ≤ 0 then 0 else ((Nat.log2 x.toNat + 1 : Nat) : Int)
theorem bl_zero : bl 0 = 0 := rfl
theorem bl_nonneg (x : Int) : 0 ≤ bl x := by unfold bl; split <;> omega
theorem bl_pos {x : Int} (h : 0 < x) : 0 < bl x := by unfold bl; rw [if_neg (by omega)]; omega
theorem bl_lt (x : Int) : x < 2 ^ (bl x).toNat := by
  unfold bl
  split
  · simp only [Int.toNat_zero, Int.pow_zero]; omega
  · rw [Int.toNat_natCast]
    have h := @Nat.lt_log2_self x.toNat
    have h3 : ((x.toNat : Nat) : Int) < ((2 ^ (Nat.log2 x.toNat + 1) : Nat) : Int) := by exact_mod_cast h
    have h4 : ((2 ^ (Nat.log2 x.toNat + 1) : Nat) : Int) = (2 : Int) ^ (Nat.log2 x.toNat + 1) := by push_cast; rfl
    rw [← h4]
    omega
theorem bl_le {x : Int} (h : 0 < x) : 2 ^ (bl x - 1).toNat ≤ x := by
  unfold bl
  rw [if_neg (by omega)]
  have h1 := Nat.log2_self_le (n := x.toNat) (by omega)
  have h3 : ((2 ^ (Nat.log2 x.toNat) : Nat) : Int) ≤ ((x.toNat : Nat) : Int) := by exact_mod_cast h1
  have h4 : ((2 ^ (Nat.log2 x.toNat) : Nat) : Int) = (2 : Int) ^ (Nat.log2 x.toNat) := by push_cast; rfl
  rw [h4] at h3
  have e : (((Nat.log2 x.toNat + 1 : Nat) : Int) - 1).toNat = Nat.log2 x.toNat := by omega
  rw [e]
  omega
theorem pow_le_pow {a b : Nat} (h : a ≤ b) : (2 : Int) ^ a ≤ 2 ^ b := by
  have := Nat.pow_le_pow_right (n := 2) (by decide) h
  have h2 : ((2 ^ a : Nat) : Int) ≤ ((2 ^ b : Nat) : Int) := by exact_mod_cast this
  rw [Int.natCast_pow, Int.natCast_pow] at h2
  exact h2
theorem pow_pos (a : Nat) : (0 : Int) < 2 ^ a := by
  have := Nat.two_pow_pos a
  have h2 : (0 : Int) < ((2 ^ a : Nat) : Int) := by exact_mod_cast this
  rw [Int.natCast_pow] at h2
  exact h2
theorem pow_lt_of {a b : Nat} (h : (2 : Int) ^ a < 2 ^ b) : a < b := by
  rcases Nat.lt_or_ge a b with h1 | h1
  · exact h1
  · have := pow_le_pow h1
    omega
/-- Just one number of bits fits. -/
theorem bl_eq {x : Int} {n : Nat} (h1 : 2 ^ n ≤ x) (h2 : x < 2 ^ (n + 1)) : bl x = n + 1 := by
  have hp := pow_pos n
  have hx : 0 < x := by omega
  have a1 := bl_lt x
  have a2 := bl_le hx
  have a3 := bl_pos hx
  have : n < (bl x).toNat := pow_lt_of (by omega)
  have : (bl x - 1).toNat < n + 1 := pow_lt_of (by omega)
  omega
theorem bl_le_of {x : Int} {n : Nat} (h : x < 2 ^ n) : bl x ≤ n := by
  rcases Int.lt_or_le 0 x with hx | hx
  · have a2 := bl_le hx
    have : (bl x - 1).toNat < n := pow_lt_of (by omega)
    omega
  · have : bl x = 0 := by unfold bl; rw [if_pos hx]
    omega
theorem bl_64 {x : Int} (h : x < 18446744073709551616) : bl x ≤ 64 := bl_le_of (n := 64) (by omega)
/-- A number moved down by s bits has s bits fewer. -/
theorem bl_shr {x : Int} {s : Nat} (h : 2 ^ s ≤ x) : bl x = bl (x / 2 ^ s) + s := by
  have hp := pow_pos s
  have hq : 1 ≤ x / 2 ^ s := by rw [Int.le_ediv_iff_mul_le hp]; omega
  have a1 := bl_lt (x / 2 ^ s)
  have a2 := bl_le (x := x / 2 ^ s) (by omega)
  have a3 := bl_pos (x := x / 2 ^ s) (by omega)
  obtain ⟨n, hn⟩ : ∃ n : Nat, bl (x / 2 ^ s) = n + 1 := ⟨(bl (x / 2 ^ s) - 1).toNat, by omega⟩
  rw [hn] at a1 a2 ⊢
  have e1 : ((n : Int) + 1).toNat = n + 1 := by omega
  have e2 : ((n : Int) + 1 - 1).toNat = n := by omega
  rw [e1] at a1
  rw [e2] at a2
  have b1 : 2 ^ n * 2 ^ s ≤ x := (Int.le_ediv_iff_mul_le hp).1 a2
  have b2 : x < 2 ^ (n + 1) * 2 ^ s := (Int.ediv_lt_iff_lt_mul hp).1 a1
  rw [← Int.pow_add] at b1 b2
  rw [bl_eq (n := n + s) b1 (by rwa [show n + s + 1 = n + 1 + s by omega])]
  omega
end Go.Proofs.Ytldcgclbgbhffaa.M
