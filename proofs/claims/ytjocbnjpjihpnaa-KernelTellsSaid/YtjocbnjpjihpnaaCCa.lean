/- What the functions answer, over plain numbers. -/
import Derived.Laws.BitsLemmas
import Derived.Test.YtjocbnjpjihpnaaWWa
import Derived.Test.YtjocbnjpjihpnaaBlimb
import Derived.Test.YtjocbnjpjihpnaaBgradineref01
import Derived.Test.YtjocbnjpjihpnaaBnat
import Derived.Test.YtjocbnjpjihpnaaBgradineref02
import Derived.Test.YtjocbnjpjihpnaaBgradineref03
import Derived.Test.YtjocbnjpjihpnaaBgradineref04
import Derived.Test.YtjocbnjpjihpnaaBgradineref05
import Derived.Test.YtjocbnjpjihpnaaBgradineref07
import Derived.Test.YtjocbnjpjihpnaaBfbits
import Derived.Test.YtjocbnjpjihpnaaBgradineref09
import Derived.Test.YtjocbnjpjihpnaaBfround
import Derived.Test.YtjocbnjpjihpnaaBgradineref10
import Derived.Test.YtjocbnjpjihpnaaBfsum
import Derived.Test.YtjocbnjpjihpnaaBgradineref11
import Derived.Test.YtjocbnjpjihpnaaBfprod
import Derived.Test.YtjocbnjpjihpnaaBgradineref12
import Derived.Test.YtjocbnjpjihpnaaBfcmp
import Derived.Test.YtjocbnjpjihpnaaBgradineref13
section
namespace Go.Proofs.Ytjocbnjpjihpnaa.M
open Go.RowKit Go.Proofs.YtjocbnjpjihpnaaW.PrintWords Go.Proofs.YtjocbnjpjihpnaaW.PrintLast Go.Proofs.YtjocbnjpjihpnaaW.PrintMore
set_option linter.unusedVariables false

theorem wu (n : Int) : IntKind.u64.wrap n = n % 18446744073709551616 := by simp [IntKind.wrap, IntKind.bits, IntKind.signed]
theorem wu_id {n : Int} (h0 : 0 ≤ n) (h1 : n < 18446744073709551616) : IntKind.u64.wrap n = n := by rw [wu]; omega
theorem w64_id {n : Int} (h0 : -9223372036854775808 ≤ n) (h1 : n ≤ 9223372036854775807) : wrap64 n = n := by unfold wrap64; omega
theorem wu_fits : ∀ n : Int, 0 ≤ n → n < 2 ^ 64 → IntKind.u64.wrap n = n := fun n h0 h1 => wu_id h0 (by omega)
theorem wf_u64 {x : Int} (h : (Lit.int .u64 x).wf = true) : 0 ≤ x ∧ x < 18446744073709551616 := by
  simp [Lit.wf, Go.IntKind.min, IntKind.max, IntKind.bits, IntKind.signed] at h
  omega
theorem and_mask (i : Nat) (hi : i ≤ 64) (x : Int) (h0 : 0 ≤ x) (h1 : x < 18446744073709551616) : Go.bits .and .u64 x (2 ^ i - 1) = x % 2 ^ i :=
  bits_mask .u64 64 (by decide) wu_fits i hi x h0 (by omega)
theorem and32 (x : Int) (h0 : 0 ≤ x) (h1 : x < 18446744073709551616) : Go.bits .and .u64 x 4294967295 = x % 4294967296 := and_mask 32 (by decide) x h0 h1
theorem and1 (x : Int) (h0 : 0 ≤ x) (h1 : x < 18446744073709551616) : Go.bits .and .u64 x 1 = x % 2 := and_mask 1 (by decide) x h0 h1
theorem and52 (x : Int) (h0 : 0 ≤ x) (h1 : x < 18446744073709551616) : Go.bits .and .u64 x 4503599627370495 = x % 4503599627370496 := and_mask 52 (by decide) x h0 h1
theorem and11 (x : Int) (h0 : 0 ≤ x) (h1 : x < 18446744073709551616) : Go.bits .and .u64 x 2047 = x % 2048 := and_mask 11 (by decide) x h0 h1
/-- A number with i bits 0 below, and one of i bits: put together. -/
theorem or_join (i : Nat) (x y : Int) (hx0 : 0 ≤ x) (hx : x % 2 ^ i = 0) (hx1 : x < 18446744073709551616) (hy0 : 0 ≤ y) (hy : y < 2 ^ i) (hy1 : y < 18446744073709551616) : Go.bits .or .u64 x y = x + y :=
  bits_join .u64 64 (by decide) wu_fits i x y hx0 hx (by omega) hy0 hy (by omega)
theorem or_nat (a b : Nat) (ha : a < 2 ^ 64) (hb : b < 2 ^ 64) : Go.bits .or .u64 a b = ((a ||| b : Nat) : Int) := (bits_nat .u64 64 (by decide) wu_fits a b ha hb).2
theorem and_nat (a b : Nat) (ha : a < 2 ^ 64) (hb : b < 2 ^ 64) : Go.bits .and .u64 a b = ((a &&& b : Nat) : Int) := (bits_nat .u64 64 (by decide) wu_fits a b ha hb).1
theorem or_comm (x y : Int) (hx0 : 0 ≤ x) (hx1 : x < 18446744073709551616) (hy0 : 0 ≤ y) (hy1 : y < 18446744073709551616) : Go.bits .or .u64 x y = Go.bits .or .u64 y x := by
  obtain ⟨a, rfl⟩ := Int.eq_ofNat_of_zero_le hx0
  obtain ⟨b, rfl⟩ := Int.eq_ofNat_of_zero_le hy0
  rw [or_nat a b (by omega) (by omega), or_nat b a (by omega) (by omega), Nat.or_comm]

theorem shr_u (x y : Int) (h : y ≤ 64) : shr .u64 x y = x / 2 ^ y.toNat := by
  unfold shr
  rw [show IntKind.bits .u64 = 64 from rfl, Nat.min_eq_left (by omega)]
theorem shl_u (x y : Int) (h : y ≤ 64) : shl .u64 x y = x * 2 ^ y.toNat % 18446744073709551616 := by
  unfold shl
  rw [wu, show IntKind.bits .u64 = 64 from rfl, Nat.min_eq_left (by omega)]

/-! ### From some number of rounds on -/
theorem _root_.Go.Proofs.YtjocbnjpjihpnaaW.PrintWords.Ev.ifp {α : Type} {c : Prop} [Decidable c] {f g : Nat → Option α} {r : α} (h : c) (k : Ev f r) : Ev (fun n => if c then f n else g n) r := by
  obtain ⟨K, k⟩ := k
  exact ⟨K, fun n hn => (if_pos h).trans (k n hn)⟩
theorem _root_.Go.Proofs.YtjocbnjpjihpnaaW.PrintWords.Ev.ifn {α : Type} {c : Prop} [Decidable c] {f g : Nat → Option α} {r : α} (h : ¬ c) (k : Ev g r) : Ev (fun n => if c then f n else g n) r := by
  obtain ⟨K, k⟩ := k
  exact ⟨K, fun n hn => (if_neg h).trans (k n hn)⟩
/-- What is told without rounds. -/
theorem _root_.Go.Proofs.YtjocbnjpjihpnaaW.PrintWords.Ev.same {α : Type} {x : Option α} {r : α} (h : x = some r) : Ev (fun _ => x) r := ⟨0, fun _ _ => h⟩
theorem _root_.Go.Proofs.YtjocbnjpjihpnaaW.PrintWords.Ev.eqr {α : Type} {g : Nat → Option α} {r r' : α} (h : Ev g r) (e : r = r') : Ev g r' := e ▸ h
/-- A call without rounds, and what follows. -/
theorem _root_.Go.Proofs.YtjocbnjpjihpnaaW.PrintWords.Ev.eqv {α : Type} {g f : Nat → Option α} {r : α} (h : ∀ k, g k = f k) (k : Ev f r) : Ev g r := by
  obtain rfl : g = f := funext h
  exact k
theorem _root_.Go.Proofs.YtjocbnjpjihpnaaW.PrintWords.Ev.bindc {α β : Type} {x : Option α} {f : Nat → α → Option β} {a : α} {r : β} (h : x = some a) (k : Ev (fun n => f n a) r) : Ev (fun n => x.bind (f n)) r := Ev.bind (Ev.same h) k

/-! ### How many bits a number has -/
def bl (x : Int) : Int := if x ≤ 0 then 0 else ((Nat.log2 x.toNat + 1 : Nat) : Int)
theorem bl_zero : bl 0 = 0 := rfl
theorem bl_nonneg (x : Int) : 0 ≤ bl x := by unfold bl; split <;> omega
theorem bl_pos {x : Int} (h : 0 < x) : 0 < bl x := by unfold bl; rw [if_neg (by omega)]; omega
theorem bl_lt (x : Int) : x < 2 ^ (bl x).toNat := by
  unfold bl
  split
  · simp only [Int.toNat_zero, Int.pow_zero]; omega
  · rw [Int.toNat_natCast]
    have h := @Nat.lt_log2_self x.toNat
    have h3 : ((x.toNat : Nat) : Int) < ((2 ^ (Nat.log2 x.toNat + 1) : Nat) : Int) := by exact_mod_cast h
    have h4 : ((2 ^ (Nat.log2 x.toNat + 1) : Nat) : Int) = (2 : Int) ^ (Nat.log2 x.toNat + 1) := by push_cast; rfl
    rw [← h4]
    omega
theorem bl_le {x : Int} (h : 0 < x) : 2 ^ (bl x - 1).toNat ≤ x := by
  unfold bl
  rw [if_neg (by omega)]
  have h1 := Nat.log2_self_le (n := x.toNat) (by omega)
  have h3 : ((2 ^ (Nat.log2 x.toNat) : Nat) : Int) ≤ ((x.toNat : Nat) : Int) := by exact_mod_cast h1
  have h4 : ((2 ^ (Nat.log2 x.toNat) : Nat) : Int) = (2 : Int) ^ (Nat.log2 x.toNat) := by push_cast; rfl
  rw [h4] at h3
  have e : (((Nat.log2 x.toNat + 1 : Nat) : Int) - 1).toNat = Nat.log2 x.toNat := by omega
  rw [e]
  omega
theorem pow_le_pow {a b : Nat} (h : a ≤ b) : (2 : Int) ^ a ≤ 2 ^ b := by
  have := Nat.pow_le_pow_right (n := 2) (by decide) h
  have h2 : ((2 ^ a : Nat) : Int) ≤ ((2 ^ b : Nat) : Int) := by exact_mod_cast this
  rw [Int.natCast_pow, Int.natCast_pow] at h2
  exact h2
theorem pow_pos (a : Nat) : (0 : Int) < 2 ^ a := by
  have := Nat.two_pow_pos a
  have h2 : (0 : Int) < ((2 ^ a : Nat) : Int) := by exact_mod_cast this
  rw [Int.natCast_pow] at h2
  exact h2
theorem pow_lt_of {a b : Nat} (h : (2 : Int) ^ a < 2 ^ b) : a < b := by
  rcases Nat.lt_or_ge a b with h1 | h1
  · exact h1
  · have := pow_le_pow h1
    omega
/-- Just one number of bits fits. -/
theorem bl_eq {x : Int} {n : Nat} (h1 : 2 ^ n ≤ x) (h2 : x < 2 ^ (n + 1)) : bl x = n + 1 := by
  have hp := pow_pos n
  have hx : 0 < x := by omega
  have a1 := bl_lt x
  have a2 := bl_le hx
  have a3 := bl_pos hx
  have : n < (bl x).toNat := pow_lt_of (by omega)
  have : (bl x - 1).toNat < n + 1 := pow_lt_of (by omega)
  omega
theorem bl_le_of {x : Int} {n : Nat} (h : x < 2 ^ n) : bl x ≤ n := by
  rcases Int.lt_or_le 0 x with hx | hx
  · have a2 := bl_le hx
    have : (bl x - 1).toNat < n := pow_lt_of (by omega)
    omega
  · have : bl x = 0 := by unfold bl; rw [if_pos hx]
    omega
theorem bl_64 {x : Int} (h : x < 18446744073709551616) : bl x ≤ 64 := bl_le_of (n := 64) (by omega)
/-- A number moved down by s bits has s bits fewer. -/
theorem bl_shr {x : Int} {s : Nat} (h : 2 ^ s ≤ x) : bl x = bl (x / 2 ^ s) + s := by
  have hp := pow_pos s
  have hq : 1 ≤ x / 2 ^ s := by rw [Int.le_ediv_iff_mul_le hp]; omega
  have a1 := bl_lt (x / 2 ^ s)
  have a2 := bl_le (x := x / 2 ^ s) (by omega)
  have a3 := bl_pos (x := x / 2 ^ s) (by omega)
  obtain ⟨n, hn⟩ : ∃ n : Nat, bl (x / 2 ^ s) = n + 1 := ⟨(bl (x / 2 ^ s) - 1).toNat, by omega⟩
  rw [hn] at a1 a2 ⊢
  have e1 : ((n : Int) + 1).toNat = n + 1 := by omega
  have e2 : ((n : Int) + 1 - 1).toNat = n := by omega
  rw [e1] at a1
  rw [e2] at a2
  have b1 : 2 ^ n * 2 ^ s ≤ x := (Int.le_ediv_iff_mul_le hp).1 a2
  have b2 : x < 2 ^ (n + 1) * 2 ^ s := (Int.ediv_lt_iff_lt_mul hp).1 a1
  rw [← Int.pow_add] at b1 b2
  rw [bl_eq (n := n + s) b1 (by rwa [show n + s + 1 = n + 1 + s by omega])]
  omega
end Go.Proofs.Ytjocbnjpjihpnaa.M
end
section
namespace Go.Proofs.Ytjocbnjpjihpnaa.M
open Go.RowKit Go.Proofs.YtjocbnjpjihpnaaW.PrintWords Go.Proofs.YtjocbnjpjihpnaaW.PrintLast Go.Proofs.YtjocbnjpjihpnaaW.PrintMore
set_option linter.unusedVariables false

def U (x : Int) : Prop := 0 ≤ x ∧ x < 18446744073709551616
def Ws (l : List Int) : Prop := ∀ x ∈ l, U x
/-- Words, and not more of them than any machine has. -/
def Wl (l : List Int) : Prop := Ws l ∧ l.length ≤ 1000000000
def nv : List Int → Int
  | [] => 0
  | x :: l => x + 18446744073709551616 * nv l
theorem nv_cons (x : Int) (l : List Int) : nv (x :: l) = x + 18446744073709551616 * nv l := rfl
def Wp (n : Nat) : Int := 18446744073709551616 ^ n

theorem Wp_zero : Wp 0 = 1 := rfl
theorem Wp_succ (n : Nat) : Wp (n + 1) = 18446744073709551616 * Wp n := by unfold Wp; rw [Int.pow_succ, Int.mul_comm]
theorem Wp_pos (n : Nat) : 0 < Wp n := by
  induction n with
  | zero => decide
  | succ n ih => rw [Wp_succ]; omega
theorem Wp_two (n : Nat) : Wp n = 2 ^ (64 * n) := by
  unfold Wp
  rw [Int.pow_mul]
  rfl
theorem Wp_le {a b : Nat} (h : a ≤ b) : Wp a ≤ Wp b := by rw [Wp_two, Wp_two]; exact pow_le_pow (by omega)

theorem Ws_nil : Ws [] := fun x h => by simp at h
theorem Ws_cons {x : Int} {l : List Int} : Ws (x :: l) ↔ U x ∧ Ws l := by unfold Ws; simp
theorem Ws_app {a b : List Int} : Ws (a ++ b) ↔ Ws a ∧ Ws b := by
  unfold Ws
  simp only [List.mem_append]
  exact ⟨fun h => ⟨fun x hx => h x (.inl hx), fun x hx => h x (.inr hx)⟩, fun h x hx => hx.elim (h.1 x) (h.2 x)⟩
theorem Ws_take {l : List Int} (h : Ws l) (n : Nat) : Ws (l.take n) := fun x hx => h x (List.mem_of_mem_take hx)
theorem Ws_drop {l : List Int} (h : Ws l) (n : Nat) : Ws (l.drop n) := fun x hx => h x (List.mem_of_mem_drop hx)
theorem Ws_one {x : Int} (h : U x) : Ws [x] := fun y hy => by simp at hy; rw [hy]; exact h
theorem Ws_zeros (n : Nat) : Ws (List.replicate n 0) := fun x hx => by rw [List.eq_of_mem_replicate hx]; unfold U; omega
theorem U_rd {l : List Int} (h : Ws l) (i : Int) : U (rd l i) := by
  unfold rd
  rw [List.getD_eq_getElem?_getD]
  rcases Nat.lt_or_ge i.toNat l.length with hi | hi
  · rw [List.getElem?_eq_getElem hi]; exact h _ (List.getElem_mem hi)
  · rw [List.getElem?_eq_none hi]; unfold U; simp

theorem nv_nonneg {l : List Int} (h : Ws l) : 0 ≤ nv l := by
  induction l with
  | nil => exact Int.le_refl 0
  | cons x l ih =>
    have h1 := Ws_cons.1 h
    have h2 := ih h1.2
    have h3 := h1.1.1
    rw [nv_cons]
    omega
theorem nv_lt {l : List Int} (h : Ws l) : nv l < Wp l.length := by
  induction l with
  | nil => decide
  | cons x l ih =>
    have h1 := Ws_cons.1 h
    have h2 := ih h1.2
    have h3 := h1.1.2
    rw [List.length_cons, Wp_succ, nv_cons]
    omega
theorem nv_app (a b : List Int) : nv (a ++ b) = nv a + Wp a.length * nv b := by
  induction a with
  | nil => simp [nv, Wp_zero]
  | cons x a ih =>
    rw [List.cons_append, List.length_cons, Wp_succ, nv_cons, nv_cons, ih]
    grind
theorem nv_one (x : Int) : nv [x] = x := by rw [nv_cons]; show x + 18446744073709551616 * 0 = x; omega
theorem nv_snoc (a : List Int) (x : Int) : nv (a ++ [x]) = nv a + Wp a.length * x := by rw [nv_app, nv_one]
theorem nv_zeros (n : Nat) : nv (List.replicate n 0) = 0 := by
  induction n with
  | zero => rfl
  | succ n ih => rw [List.replicate_succ, nv_cons, ih]; rfl
theorem take_rd {l : List Int} {i : Nat} (h : i < l.length) : l.take (i + 1) = l.take i ++ [rd l (i : Int)] := by
  rw [List.take_succ_eq_append_getElem h]
  unfold rd
  rw [Int.toNat_natCast, List.getD_eq_getElem?_getD, List.getElem?_eq_getElem h]
  rfl
theorem nv_take_succ {l : List Int} {i : Nat} (h : i < l.length) : nv (l.take (i + 1)) = nv (l.take i) + Wp i * rd l (i : Int) := by
  rw [take_rd h, nv_snoc, List.length_take, Nat.min_eq_left (by omega)]
theorem nv_split (l : List Int) (i : Nat) : nv l = nv (l.take i) + Wp (min i l.length) * nv (l.drop i) := by
  have := nv_app (l.take i) (l.drop i)
  rw [List.take_append_drop, List.length_take] at this
  exact this

/-! ### A number's list -/
def dgF : Nat → Int → List Int
  | 0, _ => []
  | k + 1, n => if n ≤ 0 then [] else n % 18446744073709551616 :: dgF k (n / 18446744073709551616)
def dg (n : Int) : List Int := dgF n.toNat n
theorem dgF_nil (k : Nat) {n : Int} (h : n ≤ 0) : dgF k n = [] := by
  cases k with
  | zero => rfl
  | succ k => unfold dgF; rw [if_pos h]
theorem dgF_eq : ∀ (k j : Nat) (n : Int), n.toNat ≤ k → n.toNat ≤ j → dgF k n = dgF j n
  | 0, j, n, hk, _ => by rw [dgF_nil 0 (by omega), dgF_nil j (by omega)]
  | k + 1, 0, n, _, hj => by rw [dgF_nil _ (by omega), dgF_nil 0 (by omega)]
  | k + 1, j + 1, n, hk, hj => by
    unfold dgF
    by_cases h : n ≤ 0
    · rw [if_pos h, if_pos h]
    · rw [if_neg h, if_neg h, dgF_eq k j _ (by omega) (by omega)]
theorem dg_nil {n : Int} (h : n ≤ 0) : dg n = [] := dgF_nil _ h
theorem dg_zero : dg 0 = [] := rfl
theorem dg_pos {n : Int} (h : 0 < n) : dg n = n % 18446744073709551616 :: dg (n / 18446744073709551616) := by
  unfold dg
  obtain ⟨k, hk⟩ : ∃ k, n.toNat = k + 1 := ⟨n.toNat - 1, by omega⟩
  rw [hk]
  conv => lhs; unfold dgF
  rw [if_neg (by omega), dgF_eq k _ _ (by omega) (Nat.le_refl _)]
theorem dg_ind {P : Int → Prop} (h0 : P 0) (hs : ∀ n, 0 < n → P (n / 18446744073709551616) → P n) (n : Int) (hn : 0 ≤ n) : P n := by
  have key : ∀ (k : Nat) (n : Int), 0 ≤ n → n.toNat ≤ k → P n := by
    intro k
    induction k with
    | zero => intro n h1 h2; obtain rfl : n = 0 := by omega
              exact h0
    | succ k ih =>
      intro n h1 h2
      rcases (show n = 0 ∨ 0 < n by omega) with rfl | h
      · exact h0
      · exact hs n h (ih _ (by omega) (by omega))
  exact key _ n hn (Nat.le_refl _)
theorem dg_Ws (n : Int) : Ws (dg n) := by
  rcases Int.lt_or_le n 0 with h | h
  · rw [dg_nil (by omega)]; exact Ws_nil
  · refine dg_ind (P := fun n => Ws (dg n)) Ws_nil (fun n hn ih => ?_) n h
    rw [dg_pos hn]
    exact Ws_cons.2 ⟨by unfold U; omega, ih⟩
theorem nv_dg {n : Int} (h : 0 ≤ n) : nv (dg n) = n := by
  refine dg_ind (P := fun n => nv (dg n) = n) rfl (fun n hn ih => ?_) n h
  rw [dg_pos hn, nv_cons, ih]
  omega
/-- No word 0 at the end. -/
def Cn (l : List Int) : Prop := l = [] ∨ l.getLast? ≠ some 0
theorem Cn_tail {x : Int} {l : List Int} (h : Cn (x :: l)) : Cn l := by
  cases l with
  | nil => exact .inl rfl
  | cons y l =>
    rcases h with h | h
    · cases h
    · rw [List.getLast?_cons_cons] at h; exact .inr h
theorem nv_pos_of {l : List Int} (h : Ws l) (hc : Cn l) (hne : l ≠ []) : 0 < nv l := by
  induction l with
  | nil => exact absurd rfl hne
  | cons x l ih =>
    have h1 := Ws_cons.1 h
    unfold U at h1
    rw [nv_cons]
    cases l with
    | nil =>
      rcases hc with hc | hc
      · cases hc
      · simp at hc; show 0 < x + 18446744073709551616 * 0; omega
    | cons y l =>
      have := ih h1.2 (Cn_tail hc) (by simp)
      omega
theorem dg_nv {l : List Int} (h : Ws l) (hc : Cn l) : dg (nv l) = l := by
  induction l with
  | nil => rfl
  | cons x l ih =>
    have h0 := nv_pos_of h hc (by simp)
    have h1 := Ws_cons.1 h
    have h2 := nv_nonneg h1.2
    unfold U at h1
    have e : nv (x :: l) = x + 18446744073709551616 * nv l := rfl
    rw [dg_pos h0, e, show (x + 18446744073709551616 * nv l) % 18446744073709551616 = x by omega, show (x + 18446744073709551616 * nv l) / 18446744073709551616 = nv l by omega, ih h1.2 (Cn_tail hc)]
theorem dg_len_le {n : Int} {m : Nat} (h : n < Wp m) : (dg n).length ≤ m := by
  induction m generalizing n with
  | zero => rw [dg_nil (by rw [Wp_zero] at h; omega)]; simp
  | succ m ih =>
    rcases Int.lt_or_le 0 n with h1 | h1
    · rw [dg_pos h1, List.length_cons]
      rw [Wp_succ] at h
      have := @ih (n / 18446744073709551616) (by omega)
      omega
    · rw [dg_nil h1]; simp
theorem dg_len_lt {n : Int} (h : 0 < n) : Wp ((dg n).length - 1) ≤ n := by
  rcases Int.lt_or_le n (Wp ((dg n).length - 1)) with h1 | h1
  · have := dg_len_le h1
    have h2 : (dg n).length ≠ 0 := by rw [dg_pos h]; simp
    omega
  · exact h1
theorem lt_Wp_dg {n : Int} (h : 0 ≤ n) : n < Wp (dg n).length := by
  have h1 := nv_lt (dg_Ws n)
  rwa [nv_dg h] at h1
/-! ### Bits -/
theorem bl_mono {x y : Int} (h : x ≤ y) : bl x ≤ bl y := by
  have h1 := bl_lt y
  have := bl_le_of (x := x) (n := (bl y).toNat) (by omega)
  have := bl_nonneg y
  omega
theorem bl_add {x y : Int} (hx : 0 ≤ x) (hy : 0 ≤ y) {m : Int} (h1 : bl x ≤ m) (h2 : bl y ≤ m) : bl (x + y) ≤ m + 1 := by
  have a1 := bl_lt x
  have a2 := bl_lt y
  have n1 := bl_nonneg x
  have n2 := bl_nonneg y
  obtain ⟨k, rfl⟩ := Int.eq_ofNat_of_zero_le (show 0 ≤ m by omega)
  have b1 := pow_le_pow (a := (bl x).toNat) (b := k) (by omega)
  have b2 := pow_le_pow (a := (bl y).toNat) (b := k) (by omega)
  have := bl_le_of (x := x + y) (n := k + 1) (by rw [Int.pow_succ]; omega)
  omega
theorem bl_mul {x y : Int} (hx : 0 ≤ x) (hy : 0 ≤ y) : bl (x * y) ≤ bl x + bl y := by
  have a1 := bl_lt x
  have a2 := bl_lt y
  have n1 := bl_nonneg x
  have n2 := bl_nonneg y
  have p1 := pow_pos (bl x).toNat
  have h : x * y < 2 ^ ((bl x).toNat + (bl y).toNat) := by
    rw [Int.pow_add]
    rcases (show y = 0 ∨ 0 < y by omega) with rfl | h
    · rw [Int.mul_zero]; exact Int.mul_pos p1 (pow_pos _)
    · exact Int.mul_lt_mul a1 (by omega) h (by omega)
  have := bl_le_of h
  omega
theorem dg_len_bl (n : Int) : ((dg n).length : Int) ≤ (bl n + 63) / 64 := by
  have h1 := bl_lt n
  have n1 := bl_nonneg n
  obtain ⟨k, hk⟩ := Int.eq_ofNat_of_zero_le (show 0 ≤ (bl n + 63) / 64 by omega)
  have h2 : n < Wp k := by
    rw [Wp_two]
    have := pow_le_pow (a := (bl n).toNat) (b := 64 * k) (by omega)
    omega
  have := dg_len_le h2
  omega
theorem Wl_dg {n : Int} (h : bl n ≤ 60000000000) : Wl (dg n) := ⟨dg_Ws n, by have := dg_len_bl n; omega⟩
theorem bl_nv {l : List Int} (h : Ws l) : bl (nv l) ≤ 64 * l.length := by
  have h1 := nv_lt h
  rw [Wp_two] at h1
  have := bl_le_of h1
  omega
end Go.Proofs.Ytjocbnjpjihpnaa.M
end
section
namespace Go.Proofs.Ytjocbnjpjihpnaa.M
open Go.RowKit Go.Proofs.Ytjocbnjpjihpnaa.P Go.Proofs.YtjocbnjpjihpnaaW.PrintWords Go.Proofs.YtjocbnjpjihpnaaW.PrintLast Go.Proofs.YtjocbnjpjihpnaaW.PrintMore
set_option linter.unusedVariables false

theorem mul_halves (a b : Int) : a * b = (a / 4294967296) * (b / 4294967296) * 18446744073709551616 + ((a % 4294967296) * (b / 4294967296) + (a / 4294967296) * (b % 4294967296)) * 4294967296 + (a % 4294967296) * (b % 4294967296) := by
  have h1 := Int.mul_ediv_add_emod a 4294967296
  have h2 := Int.mul_ediv_add_emod b 4294967296
  generalize a / 4294967296 = a1 at *
  generalize b / 4294967296 = b1 at *
  generalize a % 4294967296 = a0 at *
  generalize b % 4294967296 = b0 at *
  subst h1 h2
  grind
theorem mul_bound {x y m n : Int} (hx0 : 0 ≤ x) (hx : x ≤ m) (hy0 : 0 ≤ y) (hy : y ≤ n) : 0 ≤ x * y ∧ x * y ≤ m * n :=
  ⟨Int.mul_nonneg hx0 hy0, Int.mul_le_mul hx hy hy0 (by omega)⟩
theorem limb_Mul_c {a b : Int} (ha : U a) (hb : U b) : limb_Mul.f a b = some (a * b / 18446744073709551616, a * b % 18446744073709551616) := by
  unfold U at ha hb
  unfold limb_Mul.f
  have e := mul_halves a b
  have k1 := mul_bound (x := a % 4294967296) (y := b % 4294967296) (m := 4294967295) (n := 4294967295) (by omega) (by omega) (by omega) (by omega)
  have k2 := mul_bound (x := a % 4294967296) (y := b / 4294967296) (m := 4294967295) (n := 4294967295) (by omega) (by omega) (by omega) (by omega)
  have k3 := mul_bound (x := a / 4294967296) (y := b % 4294967296) (m := 4294967295) (n := 4294967295) (by omega) (by omega) (by omega) (by omega)
  have k4 := mul_bound (x := a / 4294967296) (y := b / 4294967296) (m := 4294967295) (n := 4294967295) (by omega) (by omega) (by omega) (by omega)
  rw [and32 a (by omega) (by omega), and32 b (by omega) (by omega)]
  generalize a % 4294967296 * (b % 4294967296) = p at *
  generalize a % 4294967296 * (b / 4294967296) = q at *
  generalize a / 4294967296 * (b % 4294967296) = r at *
  generalize a / 4294967296 * (b / 4294967296) = t at *
  rw [e]
  clear e ha hb
  simp only [Int.reduceMul] at *
  simp only [wu]
  rw [and32 _ (by omega) (by omega), and32 _ (by omega) (by omega), or_join 32 _ _ (by omega) (by omega) (by omega) (by omega) (by omega) (by omega)]
  simp only [Option.some.injEq, Prod.mk.injEq]
  omega

/-! ### How many bits -/
theorem len_base (k : Nat) (x n : Int) (h0 : 0 ≤ x) (h1 : x < 2) (hn0 : 0 ≤ n) (hn1 : n ≤ 63) : limb_Len.l0 (k + 1) x n 0 = some (n + bl x) := by
  simp only [limb_Len.l0]
  rw [if_neg (by omega), w64_id (n := x) (by omega) (by omega), w64_id (by omega) (by omega)]
  rcases (show x = 0 ∨ x = 1 by omega) with rfl | rfl
  · rfl
  · have : bl 1 = 1 := rfl
    rw [this]
theorem len_step (k s s' : Nat) (hs : 0 < s) (hs2 : s ≤ 32) (hs' : s' = s / 2)
    (H : ∀ x n : Int, 0 ≤ x → x < 2 ^ s → 0 ≤ n → n ≤ 64 - s → limb_Len.l0 k x n s' = some (n + bl x))
    (x n : Int) (h0 : 0 ≤ x) (h1 : x < 2 ^ (2 * s)) (hn0 : 0 ≤ n) (hn1 : n ≤ 64 - 2 * s) : limb_Len.l0 (k + 1) x n s = some (n + bl x) := by
  have hp := pow_pos s
  have hd : ((s : Nat) : Int) / 2 = ((s' : Nat) : Int) := by omega
  simp only [limb_Len.l0]
  rw [if_pos (by omega), if_pos (by omega), shr_u _ _ (by omega), Int.toNat_natCast, hd]
  by_cases hq : x / 2 ^ s > 0
  · have hle : 2 ^ s ≤ x := by
      rcases Int.lt_or_le x (2 ^ s) with h | h
      · rw [Int.ediv_eq_zero_of_lt h0 h] at hq; omega
      · exact h
    rw [if_pos hq, w64_id (by omega) (by omega), H _ _ (by omega) ?_ (by omega) (by omega), bl_shr hle]
    · congr 1; omega
    · rw [Int.ediv_lt_iff_lt_mul hp, ← Int.pow_add]
      rwa [show s + s = 2 * s by omega]
  · have hlt : x < 2 ^ s := by
      rcases Int.lt_or_le x (2 ^ s) with h | h
      · exact h
      · have : 1 ≤ x / 2 ^ s := by rw [Int.le_ediv_iff_mul_le hp]; omega
        omega
    rw [if_neg hq, H _ _ h0 hlt hn0 (by omega)]
theorem limb_Len_c {x : Int} (h : U x) : Ev (fun k => limb_Len.f k x) (bl x) := by
  refine ⟨7, fun k hk => ?_⟩
  obtain ⟨k, rfl⟩ : ∃ m, k = m + 1 + 1 + 1 + 1 + 1 + 1 + 1 := ⟨k - 7, by omega⟩
  have s0 : ∀ x n : Int, 0 ≤ x → x < 2 ^ 1 → 0 ≤ n → n ≤ 64 - ((1 : Nat) : Int) → limb_Len.l0 (k + 1) x n ((0 : Nat) : Int) = some (n + bl x) := fun x n a b c d => len_base k x n a (by omega) c (by omega)
  have s1 := len_step (k + 1) 1 0 (by omega) (by omega) rfl s0
  have s2 := len_step (k + 1 + 1) 2 1 (by omega) (by omega) rfl (fun x n a b c d => s1 x n a b c (by omega))
  have s3 := len_step (k + 1 + 1 + 1) 4 2 (by omega) (by omega) rfl (fun x n a b c d => s2 x n a b c (by omega))
  have s4 := len_step (k + 1 + 1 + 1 + 1) 8 4 (by omega) (by omega) rfl (fun x n a b c d => s3 x n a b c (by omega))
  have s5 := len_step (k + 1 + 1 + 1 + 1 + 1) 16 8 (by omega) (by omega) rfl (fun x n a b c d => s4 x n a b c (by omega))
  have s6 := len_step (k + 1 + 1 + 1 + 1 + 1 + 1) 32 16 (by omega) (by omega) rfl (fun x n a b c d => s5 x n a b c (by omega))
  have := s6 x 0 h.1 h.2 (by omega) (by omega)
  unfold limb_Len.f
  exact this.trans (by congr 1; omega)
theorem ref01_Len_l (m : Nat) : ∀ x n : Int, 0 ≤ x → x.toNat ≤ m → bl x ≤ 64 → 0 ≤ n → n + bl x ≤ 1000 → Ev (fun k => gradineref01_Len.l0 k x n) (n + bl x) := by
  induction m with
  | zero =>
    intro x n h0 h1 hb hn hn1
    obtain rfl : x = 0 := by omega
    refine Ev.step (fun k => gradineref01_Len.l0.eq_2 ..) ?_
    refine Ev.ifn (by omega) ?_
    exact Ev.same (by rw [bl_zero]; congr 1; omega)
  | succ m ih =>
    intro x n h0 h1 hb hn hn1
    refine Ev.step (fun k => gradineref01_Len.l0.eq_2 ..) ?_
    by_cases hx : x > 0
    · refine Ev.ifp hx ?_
      have e : bl x = bl (x / 2) + 1 ∨ (x = 1 ∧ bl x = 1) := by
        rcases (show x = 1 ∨ 2 ≤ x by omega) with h | h
        · exact .inr ⟨h, by rw [h]; rfl⟩
        · exact .inl (bl_shr (s := 1) (by omega))
      have e2 : bl x = bl (x / 2) + 1 := by
        rcases e with e | ⟨rfl, e⟩
        · exact e
        · rfl
      have hn2 := bl_nonneg (x / 2)
      rw [w64_id (by omega) (by omega)]
      refine (ih (x / 2) (n + 1) (by omega) (by omega) (by omega) (by omega) (by omega)).eqr (by omega)
    · refine Ev.ifn hx ?_
      obtain rfl : x = 0 := by omega
      exact Ev.same (by rw [bl_zero]; congr 1; omega)
theorem ref01_Len_c {x : Int} (h : U x) : Ev (fun k => gradineref01_Len.f k x) (bl x) := by
  have hb := bl_64 h.2
  have := ref01_Len_l x.toNat x 0 h.1 (Nat.le_refl _) hb (by omega) (by omega)
  exact this.eqr (by omega)

/-! ### Quotients -/
/-- What a digit of half a word needs: a divisor with its highest bit. -/
theorem digit_loop (rest next d d0 d1 : Int) (hd : d = d1 * 4294967296 + d0) (hd1 : 2147483648 ≤ d1) (hd1' : d1 < 4294967296) (hd0 : 0 ≤ d0) (hd0' : d0 < 4294967296) (hr0 : 0 ≤ rest) (hr1 : rest < d) (hn0 : 0 ≤ next) (hn1 : next < 4294967296) (m : Nat) :
    ∀ q r : Int, q.toNat < m → q * d1 + r = rest → 0 ≤ r → r < 4294967296 → q ≤ 4294967297 → (rest * 4294967296 + next) / d ≤ q →
      Ev (fun k => limb_digit.l0 k rest next d d0 d1 q r) ((rest * 4294967296 + next) / d, (rest * 4294967296 + next) % d) := by
  have hdp : 0 < d := by omega
  have hN0 : 0 ≤ (rest * 4294967296 + next) / d := Int.ediv_nonneg (by omega) (by omega)
  have hNlt : (rest * 4294967296 + next) / d < 4294967296 := by rw [Int.ediv_lt_iff_lt_mul hdp]; omega
  have hmod := Int.emod_nonneg (rest * 4294967296 + next) (show d ≠ 0 by omega)
  have hmod2 := Int.emod_lt_of_pos (rest * 4294967296 + next) hdp
  have hdm := Int.mul_ediv_add_emod (rest * 4294967296 + next) d
  -- the answer at the digit itself
  have fin : ∀ q : Int, q = (rest * 4294967296 + next) / d → IntKind.u64.wrap ((IntKind.u64.wrap ((IntKind.u64.wrap (rest * 4294967296)) + next)) - (IntKind.u64.wrap (q * d))) = (rest * 4294967296 + next) % d := by
    intro q hq
    subst hq
    generalize (rest * 4294967296 + next) / d = q at *
    generalize (rest * 4294967296 + next) % d = r at *
    have e : q * d = d * q := Int.mul_comm _ _
    rw [e]
    generalize d * q = p at *
    simp only [wu]
    omega
  induction m with
  | zero => intro q r hm; omega
  | succ m ih =>
    intro q r hm hq h0 h1 h2 h3
    have hqn : 0 ≤ q := by omega
    have hp := mul_bound (x := q) (y := d0) (m := 4294967297) (n := 4294967295) hqn h2 hd0 (by omega)
    have hp1 : (q - 1) * d0 = q * d0 - d0 := by rw [Int.sub_mul, Int.one_mul]
    have hs1 : (q - 1) * d1 = q * d1 - d1 := by rw [Int.sub_mul, Int.one_mul]
    have hqd : q * d = q * d1 * 4294967296 + q * d0 := by rw [hd, Int.mul_add, ← Int.mul_assoc]
    have hqd1 : (q - 1) * d = q * d - d := by rw [Int.sub_mul, Int.one_mul]
    -- one more round: the digit was too great
    have more : (rest * 4294967296 + next) / d < q → Ev (fun k => limb_digit.j1 k rest next d d0 d1 q r true) ((rest * 4294967296 + next) / d, (rest * 4294967296 + next) % d) := by
      intro hlt
      refine Ev.step (fun k => limb_digit.j1.eq_2 ..) ?_
      refine Ev.ifp rfl ?_
      have w1 : IntKind.u64.wrap (r + d1) = r + d1 := wu_id (by omega) (by omega)
      have w2 : IntKind.u64.wrap (q - 1) = q - 1 := wu_id (by omega) (by omega)
      rw [w1, w2]
      by_cases hb : r + d1 > 4294967295
      · refine Ev.ifp hb ?_
        have hle : q - 1 ≤ (rest * 4294967296 + next) / d := by
          rw [Int.le_ediv_iff_mul_le hdp, hqd1, hqd]
          have hp2 := mul_bound (x := q - 1) (y := d0) (m := 4294967296) (n := 4294967295) (by omega) (by omega) hd0 (by omega)
          generalize (q - 1) * d0 = p1 at *
          generalize q * d0 = p at *
          generalize q * d1 = s at *
          omega
        have he : q - 1 = (rest * 4294967296 + next) / d := by omega
        exact Ev.same (by rw [fin _ he, he])
      · refine Ev.ifn hb ?_
        exact ih (q - 1) (r + d1) (by omega) (by rw [hs1]; omega) (by omega) (by omega) (by omega) (by omega)
    refine Ev.step (fun k => limb_digit.l0.eq_2 ..) ?_
    by_cases hq1 : q > 4294967295
    · exact Ev.ifp hq1 (more (by omega))
    · refine Ev.ifn hq1 ?_
      have w1 : IntKind.u64.wrap (q * d0) = q * d0 := by
        have hp3 := mul_bound (x := q) (y := d0) (m := 4294967295) (n := 4294967295) hqn (by omega) hd0 (by omega)
        exact wu_id (by omega) (by omega)
      have w2 : Go.bits .or .u64 (IntKind.u64.wrap (r * 4294967296)) next = r * 4294967296 + next := by
        rw [wu_id (by omega) (by omega)]
        exact or_join 32 _ _ (by omega) (by omega) (by omega) (by omega) (by omega) (by omega)
      rw [w1, w2]
      by_cases hc : q * d0 > r * 4294967296 + next
      · rw [decide_eq_true hc]
        refine more ?_
        rw [Int.ediv_lt_iff_lt_mul hdp, hqd]
        generalize q * d0 = p at *
        generalize q * d1 = s at *
        omega
      · rw [decide_eq_false hc]
        have hle : q ≤ (rest * 4294967296 + next) / d := by
          rw [Int.le_ediv_iff_mul_le hdp, hqd]
          generalize q * d0 = p at *
          generalize q * d1 = s at *
          omega
        have he : q = (rest * 4294967296 + next) / d := by omega
        refine Ev.step (fun k => limb_digit.j1.eq_2 ..) ?_
        refine Ev.ifn (by decide) ?_
        exact Ev.same (by rw [fin _ he, he])
theorem limb_digit_c {rest next d : Int} (hd : 9223372036854775808 ≤ d) (hd' : d < 18446744073709551616) (hr0 : 0 ≤ rest) (hr1 : rest < d) (hn0 : 0 ≤ next) (hn1 : next < 4294967296) :
    Ev (fun k => limb_digit.f k rest next d) ((rest * 4294967296 + next) / d, (rest * 4294967296 + next) % d) := by
  have e1 := Int.mul_ediv_add_emod d 4294967296
  have h1 : 2147483648 ≤ d / 4294967296 := by omega
  have h2 : d / 4294967296 < 4294967296 := by omega
  refine Ev.ifn (by omega) ?_
  rw [and32 d (by omega) hd']
  have hq0 := Int.ediv_nonneg hr0 (show 0 ≤ d / 4294967296 by omega)
  have m0 := Int.emod_nonneg rest (show d / 4294967296 ≠ 0 by omega)
  have m1 := Int.emod_lt_of_pos rest (show 0 < d / 4294967296 by omega)
  have md := Int.mul_ediv_add_emod rest (d / 4294967296)
  rw [Int.tdiv_eq_ediv_of_nonneg hr0, Int.tmod_eq_emod_of_nonneg hr0]
  have hqle : rest / (d / 4294967296) ≤ 4294967297 := by
    have : rest / (d / 4294967296) < 4294967298 := by rw [Int.ediv_lt_iff_lt_mul (by omega)]; omega
    omega
  rw [wu_id hq0 (by omega)]
  refine digit_loop rest next d (d % 4294967296) (d / 4294967296) (by omega) h1 h2 (by omega) (by omega) hr0 hr1 hn0 hn1 ((rest / (d / 4294967296)).toNat + 1) _ _ (by omega) (by rw [Int.mul_comm]; omega) m0 (by omega) hqle ?_
  have hlt : (rest * 4294967296 + next) / d < rest / (d / 4294967296) + 1 := by
    rw [Int.ediv_lt_iff_lt_mul (by omega)]
    have e2 : (rest / (d / 4294967296) + 1) * d = (d / 4294967296 * (rest / (d / 4294967296)) + d / 4294967296) * 4294967296 + (rest / (d / 4294967296) + 1) * (d % 4294967296) := by
      generalize rest / (d / 4294967296) = q at *
      generalize d / 4294967296 = d1 at *
      generalize d % 4294967296 = d0 at *
      subst e1
      grind
    have e3 : 0 ≤ (rest / (d / 4294967296) + 1) * (d % 4294967296) := Int.mul_nonneg (by omega) (by omega)
    rw [e2]
    generalize (rest / (d / 4294967296) + 1) * (d % 4294967296) = z at *
    generalize d / 4294967296 * (rest / (d / 4294967296)) = y at *
    omega
  omega

theorem bl_top {d : Int} (h0 : 0 < d) (h1 : d < 18446744073709551616) : 9223372036854775808 ≤ d * 2 ^ (64 - bl d).toNat ∧ d * 2 ^ (64 - bl d).toNat < 18446744073709551616 := by
  have a1 := bl_lt d
  have a2 := bl_le h0
  have a3 := bl_64 h1
  have a4 := bl_pos h0
  obtain ⟨n, hn⟩ : ∃ n : Nat, bl d = n + 1 := ⟨(bl d - 1).toNat, by omega⟩
  rw [hn] at a1 a2 a3 ⊢
  have e1 : ((n : Int) + 1).toNat = n + 1 := by omega
  have e2 : ((n : Int) + 1 - 1).toNat = n := by omega
  have e3 : (64 - ((n : Int) + 1)).toNat = 63 - n := by omega
  rw [e1] at a1
  rw [e2] at a2
  rw [e3]
  have hp := pow_pos (63 - n)
  have b1 := Int.mul_le_mul_of_nonneg_right a2 (Int.le_of_lt hp)
  have b2 := Int.mul_lt_mul_of_pos_right a1 hp
  rw [← Int.pow_add, show n + (63 - n) = 63 by omega] at b1
  rw [← Int.pow_add, show n + 1 + (63 - n) = 64 by omega] at b2
  omega
theorem limb_Div_c {hi lo d : Int} (hhi : 0 ≤ hi) (hlt : hi < d) (hd : d < 18446744073709551616) (hlo : U lo) :
    Ev (fun k => limb_Div.f k hi lo d) ((hi * 18446744073709551616 + lo) / d, (hi * 18446744073709551616 + lo) % d, true) := by
  obtain ⟨hlo0, hlo1⟩ := hlo
  refine Ev.ifn (by omega) ?_
  refine Ev.bind (limb_Len_c ⟨by omega, hd⟩) ?_
  have b1 := bl_pos (x := d) (by omega)
  have b2 := bl_64 hd
  have b3 := bl_top (d := d) (by omega) hd
  have e64 : wrap64 (64 - bl d) = 64 - bl d := w64_id (by omega) (by omega)
  have e63 : wrap64 (63 - (64 - bl d)) = bl d - 1 := by rw [w64_id (by omega) (by omega)]; omega
  rw [e64, e63]
  refine Ev.ifp (by omega) (Ev.ifp (by omega) ?_)
  obtain ⟨s, hs⟩ : ∃ s : Nat, 64 - bl d = s := ⟨(64 - bl d).toNat, by omega⟩
  have hs63 : s ≤ 63 := by omega
  have hs1 : bl d - 1 = ((63 - s : Nat) : Int) := by omega
  rw [hs] at b3 ⊢
  rw [hs1]
  rw [Int.toNat_natCast] at b3
  have hp := pow_pos s
  have hp2 := pow_pos (64 - s)
  have hpp : (2 : Int) ^ s * 2 ^ (64 - s) = 18446744073709551616 := by rw [← Int.pow_add, show s + (64 - s) = 64 by omega]; rfl
  -- the divisor, moved up
  rw [shl_u d _ (by omega), shl_u hi _ (by omega), shl_u lo _ (by omega), shr_u _ _ (by omega), Int.toNat_natCast, Int.toNat_natCast]
  have hdm : d * 2 ^ s % 18446744073709551616 = d * 2 ^ s := Int.emod_eq_of_lt (by omega) b3.2
  have hh0 : 0 ≤ hi * 2 ^ s := Int.mul_nonneg hhi (by omega)
  have hh1 : hi * 2 ^ s + 2 ^ s ≤ d * 2 ^ s := by
    have := Int.mul_le_mul_of_nonneg_right (show hi + 1 ≤ d by omega) (Int.le_of_lt hp)
    rw [Int.add_mul, Int.one_mul] at this
    exact this
  have hhm : hi * 2 ^ s % 18446744073709551616 = hi * 2 ^ s := Int.emod_eq_of_lt hh0 (by omega)
  -- the lower word, moved up: its two parts
  have hl2 : lo / 2 / 2 ^ (63 - s) = lo / 2 ^ (64 - s) := by
    rw [Int.ediv_ediv_of_nonneg (by omega), show (64 - s) = (63 - s) + 1 by omega, Int.pow_succ, Int.mul_comm]
  have hl3 : 0 ≤ lo / 2 ^ (64 - s) := Int.ediv_nonneg hlo0 (by omega)
  have hl4 : lo / 2 ^ (64 - s) < 2 ^ s := by rw [Int.ediv_lt_iff_lt_mul hp2, hpp]; exact hlo1
  have hl5 : lo * 2 ^ s = lo / 2 ^ (64 - s) * 18446744073709551616 + lo % 2 ^ (64 - s) * 2 ^ s := by
    have h := Int.mul_ediv_add_emod lo (2 ^ (64 - s))
    generalize lo / 2 ^ (64 - s) = q at *
    generalize lo % 2 ^ (64 - s) = r at *
    rw [← h, Int.add_mul, ← hpp]
    grind
  have hl6 : 0 ≤ lo % 2 ^ (64 - s) := Int.emod_nonneg _ (by omega)
  have hl7 : lo % 2 ^ (64 - s) < 2 ^ (64 - s) := Int.emod_lt_of_pos _ hp2
  have hl8 : lo % 2 ^ (64 - s) * 2 ^ s < 18446744073709551616 := by
    have := Int.mul_lt_mul_of_pos_right hl7 hp
    rw [Int.mul_comm (2 ^ (64 - s)), hpp] at this
    exact this
  have hl9 : 0 ≤ lo % 2 ^ (64 - s) * 2 ^ s := Int.mul_nonneg hl6 (by omega)
  have hlm : lo * 2 ^ s % 18446744073709551616 = lo % 2 ^ (64 - s) * 2 ^ s := by omega
  have hor : Go.bits .or .u64 (hi * 2 ^ s) (lo / 2 ^ (64 - s)) = hi * 2 ^ s + lo / 2 ^ (64 - s) :=
    or_join s _ _ hh0 (Int.mul_emod_left _ _) (by omega) hl3 hl4 (by omega)
  rw [hdm, hhm, hl2, hor, hlm]
  -- the whole, moved up
  have hN : (hi * 18446744073709551616 + lo) * 2 ^ s = (hi * 2 ^ s + lo / 2 ^ (64 - s)) * 18446744073709551616 + lo % 2 ^ (64 - s) * 2 ^ s := by
    have : (hi * 18446744073709551616 + lo) * 2 ^ s = hi * 2 ^ s * 18446744073709551616 + lo * 2 ^ s := by grind
    rw [this, hl5]
    grind
  have hdiv : (hi * 18446744073709551616 + lo) / d = (hi * 18446744073709551616 + lo) * 2 ^ s / (d * 2 ^ s) := (Int.mul_ediv_mul_of_pos_left _ _ hp).symm
  have hmod : (hi * 18446744073709551616 + lo) * 2 ^ s % (d * 2 ^ s) = (hi * 18446744073709551616 + lo) % d * 2 ^ s := by
    rw [Int.mul_comm _ (2 ^ s), Int.mul_comm d (2 ^ s), Int.mul_emod_mul_of_pos _ _ hp, Int.mul_comm]
  have hm1 := Int.emod_nonneg (hi * 18446744073709551616 + lo) (show d ≠ 0 by omega)
  have hmm : (hi * 18446744073709551616 + lo) % d = (hi * 18446744073709551616 + lo) * 2 ^ s % (d * 2 ^ s) / 2 ^ s := by rw [hmod, Int.mul_ediv_cancel _ (by omega)]
  rw [hdiv, hmm, hN]
  have hH : 0 ≤ hi * 2 ^ s + lo / 2 ^ (64 - s) := by omega
  have hHD : hi * 2 ^ s + lo / 2 ^ (64 - s) < d * 2 ^ s := by omega
  generalize hi * 2 ^ s + lo / 2 ^ (64 - s) = H at *
  generalize lo % 2 ^ (64 - s) * 2 ^ s = L at *
  generalize d * 2 ^ s = D at *
  refine Ev.bind (limb_digit_c b3.1 b3.2 hH hHD (by omega) (by omega)) ?_
  have r0 := Int.emod_nonneg (H * 4294967296 + L / 4294967296) (show D ≠ 0 by omega)
  have r1 := Int.emod_lt_of_pos (H * 4294967296 + L / 4294967296) (show 0 < D by omega)
  rw [and32 L (by omega) hl8]
  refine Ev.bind (limb_digit_c b3.1 b3.2 r0 r1 (by omega) (by omega)) ?_
  have q10 : 0 ≤ (H * 4294967296 + L / 4294967296) / D := Int.ediv_nonneg (by omega) (by omega)
  have q11 : (H * 4294967296 + L / 4294967296) / D < 4294967296 := by rw [Int.ediv_lt_iff_lt_mul (by omega)]; omega
  have md := Int.mul_ediv_add_emod (H * 4294967296 + L / 4294967296) D
  generalize (H * 4294967296 + L / 4294967296) / D = q1 at *
  generalize (H * 4294967296 + L / 4294967296) % D = r at *
  have hR : H * 18446744073709551616 + L = D * (q1 * 4294967296) + (r * 4294967296 + L % 4294967296) := by
    have : D * (q1 * 4294967296) = D * q1 * 4294967296 := by rw [Int.mul_assoc]
    rw [this]
    generalize D * q1 = z at *
    omega
  have q00 : 0 ≤ (r * 4294967296 + L % 4294967296) / D := Int.ediv_nonneg (by omega) (by omega)
  have q01 : (r * 4294967296 + L % 4294967296) / D < 4294967296 := by rw [Int.ediv_lt_iff_lt_mul (by omega)]; omega
  have s0 := Int.emod_nonneg (r * 4294967296 + L % 4294967296) (show D ≠ 0 by omega)
  have s1 := Int.emod_lt_of_pos (r * 4294967296 + L % 4294967296) (show 0 < D by omega)
  have eD : (D * (q1 * 4294967296) + (r * 4294967296 + L % 4294967296)) / D = (r * 4294967296 + L % 4294967296) / D + q1 * 4294967296 := by
    rw [Int.add_comm, Int.add_mul_ediv_left _ _ (by omega)]
  have eM : (D * (q1 * 4294967296) + (r * 4294967296 + L % 4294967296)) % D = (r * 4294967296 + L % 4294967296) % D := by
    rw [Int.add_comm, Int.add_mul_emod_self_left]
  rw [hR, eD, eM]
  have hw : Go.bits .or .u64 (IntKind.u64.wrap (q1 * 4294967296)) ((r * 4294967296 + L % 4294967296) / D) = (r * 4294967296 + L % 4294967296) / D + q1 * 4294967296 := by
    rw [wu_id (by omega) (by omega), or_join 32 _ _ (by omega) (by omega) (by omega) (by omega) (by omega) (by omega)]
    omega
  have hsh : shr .u64 ((r * 4294967296 + L % 4294967296) % D) (s : Int) = (r * 4294967296 + L % 4294967296) % D / 2 ^ s := by rw [shr_u _ _ (by omega), Int.toNat_natCast]
  exact Ev.same (by rw [hw, hsh])

/-! ### The reference, bit by bit -/
theorem div_pow_succ (b : Int) (n : Nat) : b / 2 ^ (n + 1) = b / 2 ^ n / 2 := by
  have hp := pow_pos n
  rw [Int.ediv_ediv_of_nonneg (by omega), Int.pow_succ]
theorem div_pow_range {b : Int} (hb : U b) (n : Nat) : 0 ≤ b / 2 ^ n ∧ b / 2 ^ n ≤ b := by
  have hp := pow_pos n
  exact ⟨Int.ediv_nonneg hb.1 (by omega), Int.ediv_le_self _ hb.1⟩
theorem ref01_Div_l {hi lo d : Int} (hhi : 0 ≤ hi) (hlt : hi < d) (hd : d < 18446744073709551616) (hlo : U lo) (n : Nat) (hn : n ≤ 64) : ∀ q r : Int, 0 ≤ q → 0 ≤ r → r < d → q * d + r = (hi * 18446744073709551616 + lo) / 2 ^ n →
    Ev (fun k => gradineref01_Div.l0 k lo d q r ((n : Int) - 1)) ((hi * 18446744073709551616 + lo) / d, (hi * 18446744073709551616 + lo) % d, true) := by
  induction n with
  | zero =>
    intro q r hq h1 h2 h
    rw [Int.pow_zero, Int.ediv_one] at h
    rw [← h]
    refine Ev.step (fun k => gradineref01_Div.l0.eq_2 ..) ?_
    refine Ev.ifn (by omega) (Ev.same ?_)
    rw [Int.mul_comm q d, Int.add_comm, Int.add_mul_ediv_left _ _ (by omega), Int.add_mul_emod_self_left, Int.ediv_eq_zero_of_lt h1 h2, Int.emod_eq_of_lt h1 h2, Int.zero_add]
  | succ n ih =>
    intro q r hq h1 h2 h
    obtain ⟨hlo0, hlo1⟩ := hlo
    have hp := pow_pos n
    rw [div_pow_succ] at h
    -- the next bit is the lower word's
    have hbit : (hi * 18446744073709551616 + lo) / 2 ^ n % 2 = lo / 2 ^ n % 2 := by
      have e : hi * 18446744073709551616 + lo = lo + 2 ^ n * (hi * 2 ^ (64 - n)) := by
        have : (2 : Int) ^ n * 2 ^ (64 - n) = 18446744073709551616 := by rw [← Int.pow_add, show n + (64 - n) = 64 by omega]; rfl
        rw [← this]
        grind
      rw [e, Int.add_mul_ediv_left _ _ (by omega), show 64 - n = (63 - n) + 1 by omega, Int.pow_succ, ← Int.mul_assoc]
      omega
    have hqd : q * d < 18446744073709551616 * d := by
      have a1 : (hi * 18446744073709551616 + lo) / 2 ^ n / 2 ≤ (hi * 18446744073709551616 + lo) / 2 ^ n := by
        have := Int.ediv_nonneg (a := hi * 18446744073709551616 + lo) (b := 2 ^ n) (by omega) (by omega)
        omega
      have a2 : (hi * 18446744073709551616 + lo) / 2 ^ n ≤ hi * 18446744073709551616 + lo := Int.ediv_le_self _ (by omega)
      omega
    have hql : q < 18446744073709551616 := Int.lt_of_mul_lt_mul_right hqd (by omega)
    -- so is the next one
    have hq2d : q * 2 * d ≤ (hi * 18446744073709551616 + lo) := by
      have a2 : (hi * 18446744073709551616 + lo) / 2 ^ n ≤ hi * 18446744073709551616 + lo := Int.ediv_le_self _ (by omega)
      have : q * 2 * d = 2 * (q * d) := by grind
      rw [this]
      omega
    have hq2 : q * 2 < 18446744073709551616 := Int.lt_of_mul_lt_mul_right (a := d) (by omega) (by omega)
    have hN : (hi * 18446744073709551616 + lo) / 2 ^ n = 2 * ((hi * 18446744073709551616 + lo) / 2 ^ n / 2) + lo / 2 ^ n % 2 := by omega
    have hrn := div_pow_range (b := lo) ⟨hlo0, hlo1⟩ n
    have hw : IntKind.u64.wrap (((n + 1 : Nat) : Int) - 1) = n := by rw [wu_id (by omega) (by omega)]; omega
    have hw6 : wrap64 (((n + 1 : Nat) : Int) - 1 - 1) = (n : Int) - 1 := by rw [w64_id (by omega) (by omega)]; omega
    refine Ev.step (fun k => gradineref01_Div.l0.eq_2 ..) ?_
    refine Ev.ifp (by omega) ?_
    rw [hw, hw6]
    refine Ev.ifp (by omega) ?_
    rw [shr_u _ _ (by omega), Int.toNat_natCast, and1 _ hrn.1 (by omega)]
    have ho : Go.bits .or .u64 (IntKind.u64.wrap (r * 2)) (lo / 2 ^ n % 2) = (r * 2 + lo / 2 ^ n % 2) % 18446744073709551616 := by
      rw [wu, or_join 1 _ _ (by omega) (by omega) (by omega) (by omega) (by omega) (by omega)]
      omega
    have hoq : Go.bits .or .u64 (IntKind.u64.wrap (q * 2)) 1 = q * 2 + 1 := by
      rw [wu, or_join 1 _ _ (by omega) (by omega) (by omega) (by omega) (by omega) (by omega)]
      omega
    rw [ho, hoq, wu_id (n := q * 2) (by omega) (by omega)]
    generalize lo / 2 ^ n % 2 = bit at *
    have hb01 : bit = 0 ∨ bit = 1 := by omega
    have hs1 : (q * 2 + 1) * d = 2 * (q * d) + d := by grind
    have hs0 : q * 2 * d = 2 * (q * d) := by grind
    by_cases hc : r / 9223372036854775808 = 1
    · refine Ev.ifp hc ?_
      rw [wu]
      exact ih (by omega) _ _ (by omega) (by omega) (by omega) (by rw [hs1]; omega)
    · refine Ev.ifn hc ?_
      by_cases hc2 : (r * 2 + bit) % 18446744073709551616 ≥ d
      · refine Ev.ifp hc2 ?_
        rw [wu]
        exact ih (by omega) _ _ (by omega) (by omega) (by omega) (by rw [hs1]; omega)
      · refine Ev.ifn hc2 ?_
        exact ih (by omega) _ _ (by omega) (by omega) (by omega) (by rw [hs0]; omega)
theorem ref01_Div_c {hi lo d : Int} (hhi : 0 ≤ hi) (hlt : hi < d) (hd : d < 18446744073709551616) (hlo : U lo) :
    Ev (fun k => gradineref01_Div.f k hi lo d) ((hi * 18446744073709551616 + lo) / d, (hi * 18446744073709551616 + lo) % d, true) := by
  refine Ev.ifn (by omega) ?_
  refine ref01_Div_l hhi hlt hd hlo 64 (by omega) 0 hi (by omega) hhi hlt ?_
  have : (2 : Int) ^ 64 = 18446744073709551616 := rfl
  rw [this]
  unfold U at hlo
  omega
end Go.Proofs.Ytjocbnjpjihpnaa.M
end
section
namespace Go.Proofs.Ytjocbnjpjihpnaa.M
open Go.RowKit Go.Proofs.Ytjocbnjpjihpnaa.P Go.Proofs.YtjocbnjpjihpnaaW.PrintWords Go.Proofs.YtjocbnjpjihpnaaW.PrintLast Go.Proofs.YtjocbnjpjihpnaaW.PrintMore
set_option linter.unusedVariables false

theorem Cn_take {l : List Int} {n : Nat} (h : n < l.length) (hr : rd l (n : Int) ≠ 0) : Cn (l.take (n + 1)) := by
  rw [take_rd h]
  exact .inr (by rw [List.getLast?_append]; simpa using hr)
theorem dg_take {l : List Int} (h : Ws l) {n : Nat} (hn : n < l.length) (hr : rd l (n : Int) ≠ 0) (he : nv (l.take (n + 1)) = nv l) : dg (nv l) = l.take (n + 1) := by
  rw [← he, dg_nv (Ws_take h _) (Cn_take hn hr)]
theorem nat_size_l {l : List Int} (h : Wl l) (n : Nat) : n ≤ l.length → nv (l.take n) = nv l → Ev (fun k => nat_size.l0 k l n) ((dg (nv l)).length : Int) := by
  obtain ⟨hw, hl⟩ := h
  induction n with
  | zero =>
    intro hn he
    refine Ev.step (fun k => nat_size.l0.eq_2 ..) ?_
    refine Ev.ifn (by omega) (Ev.same ?_)
    rw [← he]
    rfl
  | succ n ih =>
    intro hn he
    have e : wrap64 (((n + 1 : Nat) : Int) - 1) = (n : Int) := by rw [w64_id (by omega) (by omega)]; omega
    refine Ev.step (fun k => nat_size.l0.eq_2 ..) ?_
    refine Ev.ifp (by omega) ?_
    rw [e]
    refine Ev.ifp (by omega) (Ev.ifp (by omega) ?_)
    by_cases hr : rd l (n : Int) = 0
    · refine Ev.ifp hr (ih (by omega) ?_)
      rw [← he, nv_take_succ (by omega), hr, Int.mul_zero, Int.add_zero]
    · refine Ev.ifn hr (Ev.same ?_)
      rw [dg_take hw (by omega) hr he, List.length_take, Nat.min_eq_left (by omega)]
theorem nat_size_c {l : List Int} (h : Wl l) : Ev (fun k => nat_size.f k l) ((dg (nv l)).length : Int) :=
  nat_size_l h l.length (Nat.le_refl _) (by rw [List.take_length])
/-- A list's first words are its number's. -/
theorem dg_prefix {l : List Int} (h : Ws l) : ∃ r, l = dg (nv l) ++ r ∧ nv r = 0 := by
  have key : ∀ n, n ≤ l.length → nv (l.take n) = nv l → l.take (dg (nv l)).length = dg (nv l) := by
    intro n
    induction n with
    | zero => intro _ he; rw [← he]; rfl
    | succ n ih =>
      intro hn he
      by_cases hr : rd l (n : Int) = 0
      · refine ih (by omega) ?_
        rw [← he, nv_take_succ (by omega), hr, Int.mul_zero, Int.add_zero]
      · rw [dg_take h (by omega) hr he, List.length_take, Nat.min_eq_left (by omega)]
  have h1 := key l.length (Nat.le_refl _) (by rw [List.take_length])
  refine ⟨l.drop (dg (nv l)).length, ?_, ?_⟩
  · conv => rhs; lhs; rw [← h1]
    rw [List.take_append_drop]
  · have h2 := nv_split l (dg (nv l)).length
    rw [h1, nv_dg (nv_nonneg h)] at h2
    have h3 := Wp_pos (min (dg (nv l)).length l.length)
    have h4 : Wp (min (dg (nv l)).length l.length) * nv (l.drop (dg (nv l)).length) = 0 := by omega
    rcases Int.mul_eq_zero.1 h4 with h5 | h5
    · omega
    · exact h5
theorem dg_len_list {l : List Int} (h : Ws l) : (dg (nv l)).length ≤ l.length := dg_len_le (nv_lt h)
theorem take_dg {l : List Int} (h : Ws l) : l.take (dg (nv l)).length = dg (nv l) := by
  obtain ⟨r, hr, _⟩ := dg_prefix h
  conv => lhs; rhs; rw [hr]
  simp
theorem dg_len_zero {n : Int} (h : 0 ≤ n) : (dg n).length = 0 ↔ n = 0 := by
  constructor
  · intro h1
    have := nv_dg h
    rw [List.eq_nil_of_length_eq_zero h1] at this
    exact this.symm
  · intro h1; rw [h1]; rfl
def cmpI (x y : Int) : Int := if x < y then -1 else if y < x then 1 else 0
theorem cmpI_lt {x y : Int} (h : x < y) : cmpI x y = -1 := by unfold cmpI; rw [if_pos h]
theorem cmpI_gt {x y : Int} (h : y < x) : cmpI x y = 1 := by unfold cmpI; rw [if_neg (by omega), if_pos h]
theorem nv_take_dg {l : List Int} (h : Ws l) : nv (l.take (dg (nv l)).length) = nv l := by rw [take_dg h, nv_dg (nv_nonneg h)]
/-! ### Sums and differences -/
theorem take_zero_of_ge {b : List Int} {i : Nat} (h : b.length ≤ i) : b.take (i + 1) = b.take i := by rw [List.take_of_length_le (by omega), List.take_of_length_le (by omega)]
theorem Wl_snoc {a : List Int} {x : Int} (ha : Ws a) (hx : U x) : Ws (a ++ [x]) := Ws_app.2 ⟨ha, Ws_one hx⟩
end Go.Proofs.Ytjocbnjpjihpnaa.M
end
section
namespace Go.Proofs.Ytjocbnjpjihpnaa.M
open Go.RowKit Go.Proofs.Ytjocbnjpjihpnaa.P Go.Proofs.YtjocbnjpjihpnaaW.PrintWords Go.Proofs.YtjocbnjpjihpnaaW.PrintLast Go.Proofs.YtjocbnjpjihpnaaW.PrintMore
set_option linter.unusedVariables false

/-- A fact that linear arithmetic is not to look at. -/
structure Hd (p : Prop) : Prop where mk :: (out : p)
theorem sub_succ_of {i m : Nat} (h : m ≤ i) : i + 1 - m = i - m + 1 := by omega
/-! ### Up and down -/
def shn (n : Int) : Nat := (mn (mx n 0) 65536).toNat
theorem shn_le (n : Int) : shn n ≤ 65536 := by unfold shn mn; split <;> omega
theorem shn_of {n : Int} (h0 : 0 ≤ n) (h1 : n ≤ 65536) : shn n = n.toNat := by unfold shn mn mx; split <;> split <;> omega
theorem shn_eq (n : Int) : mn (mx n 0) 65536 = (shn n : Int) := by unfold shn mn mx; split <;> split <;> omega
theorem mul_mod_left (x y : Int) : x % 18446744073709551616 * y % 18446744073709551616 = x * y % 18446744073709551616 := by
  rw [Int.mul_emod, Int.emod_emod_of_dvd _ (Int.dvd_refl _), ← Int.mul_emod]
theorem w_split {b : Nat} (h : b ≤ 64) : (2 : Int) ^ (64 - b) * 2 ^ b = 18446744073709551616 := by
  rw [← Int.pow_add, show 64 - b + b = 64 by omega]; rfl
theorem mod_up (z : Int) {b : Nat} (h : b ≤ 64) : z * 2 ^ (64 - b) % 18446744073709551616 = 2 ^ (64 - b) * (z % 2 ^ b) := by
  rw [← w_split h, Int.mul_comm z, Int.mul_emod_mul_of_pos _ _ (pow_pos _)]
theorem mod_up' (z : Int) {b : Nat} (h : b ≤ 64) : z * 2 ^ b % 18446744073709551616 = 2 ^ b * (z % 2 ^ (64 - b)) := by
  have := mod_up z (b := 64 - b) (by omega)
  rwa [show 64 - (64 - b) = b by omega] at this
theorem shl_word {x c : Int} (hx : U x) {b : Nat} (hb : b ≤ 63) (hc0 : 0 ≤ c) (hc1 : c < 2 ^ b) :
    Go.bits .or .u64 (IntKind.u64.wrap (x * 2 ^ b)) c = x * 2 ^ b % 18446744073709551616 + c ∧ x * 2 ^ b = x / 2 ^ (64 - b) * 18446744073709551616 + x * 2 ^ b % 18446744073709551616 ∧ 0 ≤ x / 2 ^ (64 - b) ∧ x / 2 ^ (64 - b) < 2 ^ b ∧ U (x * 2 ^ b % 18446744073709551616 + c) := by
  obtain ⟨hx0, hx1⟩ := hx
  have hp := pow_pos b
  have hp2 := pow_pos (64 - b)
  have hpp := w_split (b := b) (by omega)
  have hb64 : (2 : Int) ^ b ≤ 2 ^ 63 := pow_le_pow hb
  have e1 := mod_up' x (b := b) (by omega)
  have m0 := Int.emod_nonneg x (show (2 : Int) ^ (64 - b) ≠ 0 by omega)
  have m1 := Int.emod_lt_of_pos x hp2
  have hdm := Int.mul_ediv_add_emod x (2 ^ (64 - b))
  have q0 := Int.ediv_nonneg hx0 (show (0 : Int) ≤ 2 ^ (64 - b) by omega)
  have q1 : x / 2 ^ (64 - b) < 2 ^ b := by rw [Int.ediv_lt_iff_lt_mul hp2, Int.mul_comm, hpp]; exact hx1
  have hle : 2 ^ b * (x % 2 ^ (64 - b)) + 2 ^ b ≤ 18446744073709551616 := by
    rw [← hpp, Int.mul_comm (2 ^ (64 - b))]
    have := Int.mul_le_mul_of_nonneg_left (show x % 2 ^ (64 - b) + 1 ≤ 2 ^ (64 - b) by omega) (Int.le_of_lt hp)
    rw [Int.mul_add, Int.mul_one] at this
    exact this
  have hnn : 0 ≤ 2 ^ b * (x % 2 ^ (64 - b)) := Int.mul_nonneg (by omega) m0
  refine ⟨?_, ?_, q0, q1, ?_⟩
  · rw [wu, e1, or_join b _ _ hnn (Int.mul_emod_right _ _) (by omega) hc0 hc1 (by omega)]
  · rw [e1, ← hpp]
    generalize x / 2 ^ (64 - b) = q at *
    generalize x % 2 ^ (64 - b) = r at *
    generalize (2 : Int) ^ (64 - b) = P at *
    generalize (2 : Int) ^ b = Q at *
    rw [← hdm]
    grind
  · rw [e1]; unfold U; omega
/-- A word moved down, with what comes in from the next one. -/
theorem shr_word {y z T : Int} (hy : U y) (hz : U z) {b : Nat} (hb : b ≤ 63) (hT : ∃ t, T = z + 18446744073709551616 * t) :
    Go.bits .or .u64 (y / 2 ^ b) (IntKind.u64.wrap (IntKind.u64.wrap (z * 2) * 2 ^ (63 - b))) = y / 2 ^ b + 2 ^ (64 - b) * (z % 2 ^ b) ∧ U (y / 2 ^ b + 2 ^ (64 - b) * (z % 2 ^ b)) ∧ (y + 18446744073709551616 * T) / 2 ^ b = y / 2 ^ b + 2 ^ (64 - b) * (z % 2 ^ b) + 18446744073709551616 * (T / 2 ^ b) := by
  obtain ⟨hy0, hy1⟩ := hy
  obtain ⟨hz0, hz1⟩ := hz
  have hp := pow_pos b
  have hp2 := pow_pos (64 - b)
  have hpp := w_split (b := b) (by omega)
  have m0 := Int.emod_nonneg z (show (2 : Int) ^ b ≠ 0 by omega)
  have m1 := Int.emod_lt_of_pos z hp
  have q0 := Int.ediv_nonneg hy0 (show (0 : Int) ≤ 2 ^ b by omega)
  have q1 : y / 2 ^ b < 2 ^ (64 - b) := by rw [Int.ediv_lt_iff_lt_mul hp, hpp]; exact hy1
  have hle : 2 ^ (64 - b) * (z % 2 ^ b) + 2 ^ (64 - b) ≤ 18446744073709551616 := by
    rw [← hpp]
    have := Int.mul_le_mul_of_nonneg_left (show z % 2 ^ b + 1 ≤ 2 ^ b by omega) (Int.le_of_lt hp2)
    rw [Int.mul_add, Int.mul_one] at this
    exact this
  have hnn : 0 ≤ 2 ^ (64 - b) * (z % 2 ^ b) := Int.mul_nonneg (by omega) m0
  have hsh : IntKind.u64.wrap (IntKind.u64.wrap (z * 2) * 2 ^ (63 - b)) = 2 ^ (64 - b) * (z % 2 ^ b) := by
    rw [wu, wu, mul_mod_left, ← mod_up z (b := b) (by omega), Int.mul_assoc, show (2 : Int) * 2 ^ (63 - b) = 2 ^ (64 - b) by rw [show 64 - b = (63 - b) + 1 by omega, Int.pow_succ, Int.mul_comm]]
  refine ⟨?_, by unfold U; omega, ?_⟩
  · rw [hsh, or_comm _ _ q0 (by omega) hnn (by omega), or_join (64 - b) _ _ hnn (Int.mul_emod_right _ _) (by omega) q0 q1 (by omega)]
    omega
  · obtain ⟨t, ht⟩ := hT
    have hTm : T % 2 ^ b = z % 2 ^ b := by
      rw [ht, ← hpp, show z + 2 ^ (64 - b) * 2 ^ b * t = z + 2 ^ b * (2 ^ (64 - b) * t) by grind, Int.add_mul_emod_self_left]
    have hTd := Int.mul_ediv_add_emod T (2 ^ b)
    have e : y + 18446744073709551616 * T = y + 2 ^ b * (2 ^ (64 - b) * T) := by rw [← hpp]; grind
    rw [e, Int.add_mul_ediv_left _ _ (by omega)]
    conv => lhs; rhs; rw [← hTd, hTm]
    rw [← hpp]
    grind
theorem shr_word0 {y T : Int} (hy : U y) {b : Nat} (hb : b ≤ 63) (hT : T = 0) : Go.bits .or .u64 (y / 2 ^ b) 0 = y / 2 ^ b ∧ U (y / 2 ^ b) ∧ (y + 18446744073709551616 * T) / 2 ^ b = y / 2 ^ b + 18446744073709551616 * (T / 2 ^ b) := by
  have h := shr_word (T := 0) hy (z := 0) (by unfold U; omega) hb ⟨0, by omega⟩
  simp only [Int.zero_mul, Int.zero_emod, Int.mul_zero, Int.add_zero, Int.zero_ediv] at h
  subst hT
  refine ⟨?_, h.2.1, by simp⟩
  have h1 := h.1
  rw [wu, wu] at h1
  simpa using h1
theorem drop_rd {l : List Int} {i : Nat} (h : i < l.length) : l.drop i = rd l (i : Int) :: l.drop (i + 1) := by
  rw [List.drop_eq_getElem_cons h]
  unfold rd
  rw [Int.toNat_natCast, List.getD_eq_getElem?_getD, List.getElem?_eq_getElem h]
  rfl
theorem nv_div_Wp {a : List Int} (ha : Ws a) (m : Nat) : nv a / Wp m = nv (a.drop m) := by
  have h1 := nv_split a m
  have h2 := nv_lt (Ws_take ha m)
  have h3 := nv_nonneg (Ws_take ha m)
  have h4 := Wp_pos m
  rw [List.length_take] at h2
  rcases Nat.lt_or_ge m a.length with h | h
  · rw [Nat.min_eq_left (by omega)] at h1 h2
    rw [h1, Int.add_mul_ediv_left _ _ (by omega), Int.ediv_eq_zero_of_lt h3 h2, Int.zero_add]
  · have h5 := nv_lt ha
    have h6 := Wp_le h
    rw [List.drop_eq_nil_of_le h, Int.ediv_eq_zero_of_lt (nv_nonneg ha) (by omega)]
    rfl
/-! ### Bits -/
theorem bl_top_word {l : List Int} (h : Ws l) {n : Nat} (hn : (dg (nv l)).length = n + 1) : bl (nv l) = 64 * n + bl (rd l (n : Int)) ∧ 0 < rd l (n : Int) := by
  have h0 := nv_nonneg h
  have hle := dg_len_list h
  have h1 := nv_take_dg h
  rw [hn, nv_take_succ (by omega)] at h1
  have h2 := nv_lt (Ws_take h n)
  have h3 := nv_nonneg (Ws_take h n)
  rw [List.length_take, Nat.min_eq_left (by omega)] at h2
  have hp := Wp_pos n
  have hpos : 0 < nv l := by
    rcases (show nv l = 0 ∨ 0 < nv l by omega) with h4 | h4
    · rw [h4] at hn; simp [dg_zero] at hn
    · exact h4
  have h5 := dg_len_lt hpos
  rw [hn] at h5
  have hu := U_rd h (n : Int)
  have hr : 1 ≤ rd l (n : Int) := by
    rcases (show rd l (n : Int) ≤ 0 ∨ 1 ≤ rd l (n : Int) by omega) with h6 | h6
    · have : Wp n * rd l (n : Int) ≤ 0 := Int.mul_nonpos_of_nonneg_of_nonpos (by omega) h6
      simp at h5
      omega
    · exact h6
  have hq : nv l / 2 ^ (64 * n) = rd l (n : Int) := by
    rw [← Wp_two, ← h1, Int.add_mul_ediv_left _ _ (by omega), Int.ediv_eq_zero_of_lt h3 h2, Int.zero_add]
  have h7 : 2 ^ (64 * n) ≤ nv l := by rw [← Wp_two]; simpa using h5
  refine ⟨?_, by omega⟩
  rw [bl_shr h7, hq]
  omega
/-- Has a number a bit? -/
def bitI (x i : Int) : Bool := decide (0 ≤ i) && decide (x / 2 ^ i.toNat % 2 = 1)
theorem bit_list {l : List Int} (h : Ws l) (i : Nat) : nv l / 2 ^ i % 2 = rd l ((i / 64 : Nat) : Int) / 2 ^ (i % 64) % 2 := by
  have e : i = 64 * (i / 64) + i % 64 := by omega
  have hp := Wp_pos (i / 64)
  conv => lhs; rw [e, Int.pow_add, ← Wp_two, ← Int.ediv_ediv_of_nonneg (Int.le_of_lt hp), nv_div_Wp h]
  rcases Nat.lt_or_ge (i / 64) l.length with h1 | h1
  · rw [drop_rd h1, nv_cons]
    have e2 : (18446744073709551616 : Int) = 2 ^ (i % 64) * (2 ^ (63 - i % 64) * 2) := by
      rw [show (2 : Int) ^ (63 - i % 64) * 2 = 2 ^ (64 - i % 64) by rw [show 64 - i % 64 = (63 - i % 64) + 1 by omega, Int.pow_succ], ← Int.pow_add, show i % 64 + (64 - i % 64) = 64 by omega]; rfl
    have hp2 := pow_pos (i % 64)
    rw [e2, Int.mul_assoc, Int.add_mul_ediv_left _ _ (by omega), show (2 : Int) ^ (63 - i % 64) * 2 * nv (l.drop (i / 64 + 1)) = 2 * (2 ^ (63 - i % 64) * nv (l.drop (i / 64 + 1))) by grind, Int.add_mul_emod_self_left]
  · rw [List.drop_eq_nil_of_le h1]
    unfold rd
    rw [List.getD_eq_getElem?_getD, Int.toNat_natCast, List.getElem?_eq_none h1]
    simp [nv]
theorem word_bit {x : Int} (h : U x) (i : Nat) (hi : i < 64) : (Go.bits .and .u64 (shr .u64 x (i : Int)) 1 == 1) = decide (x / 2 ^ i % 2 = 1) := by
  have hr := div_pow_range h i
  rw [shr_u _ _ (by omega), Int.toNat_natCast, and1 _ hr.1 (by unfold U at h; omega)]
  by_cases hb : x / 2 ^ i % 2 = 1 <;> simp [hb]
/-- A number's bit, as it is looked up. -/
def bitF (l0 : List Int) (a1 : Int) : Option (Bool) := if a1 ≥ 0 then (if (wrap64 (Int.tdiv a1 64)) < (l0.length : Int) then (if 0 ≤ (wrap64 (Int.tdiv a1 64)) then (if 0 ≤ (Int.tmod a1 64) then (some ((Go.bits .and .u64 (shr .u64 (rd l0 (wrap64 (Int.tdiv a1 64))) (Int.tmod a1 64)) 1) == 1)) else (none)) else (none)) else (some false)) else (some false)
theorem bitF_c {l : List Int} (h : Wl l) {i : Int} (hi : i ≤ 9223372036854775807) : bitF l i = some (bitI (nv l) i) := by
  have hl := h.2
  unfold bitF bitI
  by_cases h0 : i ≥ 0
  · obtain ⟨n, rfl⟩ := Int.eq_ofNat_of_zero_le h0
    have hb := bit_list h.1 n
    rw [if_pos h0, Int.tdiv_eq_ediv_of_nonneg h0, Int.tmod_eq_emod_of_nonneg h0, w64_id (by omega) (by omega), Int.toNat_natCast, hb]
    have e1 : (n : Int) / 64 = ((n / 64 : Nat) : Int) := by omega
    have e2 : (n : Int) % 64 = ((n % 64 : Nat) : Int) := by omega
    rw [e1, e2]
    by_cases h1 : ((n / 64 : Nat) : Int) < (l.length : Int)
    · rw [if_pos h1, if_pos (by omega), if_pos (by omega), word_bit (U_rd h.1 _) _ (by omega)]
      simp
    · rw [if_neg h1]
      have : rd l ((n / 64 : Nat) : Int) = 0 := by
        unfold rd
        rw [List.getD_eq_getElem?_getD, Int.toNat_natCast, List.getElem?_eq_none (by omega)]
        rfl
      rw [this]
      simp
  · rw [if_neg h0]
    simp; omega
/-- How often a number can be halved: found by looking. -/
def tzF : Nat → Int → Int
  | 0, _ => 0
  | k + 1, x => if x % 2 = 1 then 0 else 1 + tzF k (x / 2)
def tz (x : Int) : Int := if x ≤ 0 then 0 else tzF x.toNat x
theorem tzF_spec : ∀ (k : Nat) (x : Int), 0 < x → x.toNat ≤ k → ∃ n : Nat, tzF k x = n ∧ x / 2 ^ n % 2 = 1 ∧ ∀ j, j < n → x / 2 ^ j % 2 = 0
  | 0, x, h, hk => by omega
  | k + 1, x, h, hk => by
    unfold tzF
    by_cases h1 : x % 2 = 1
    · exact ⟨0, by rw [if_pos h1]; rfl, by simpa using h1, fun j hj => by omega⟩
    · obtain ⟨n, e, h2, h3⟩ := tzF_spec k (x / 2) (by omega) (by omega)
      have hd : ∀ j : Nat, x / 2 ^ (j + 1) = x / 2 / 2 ^ j := fun j => by
        rw [Int.ediv_ediv_of_nonneg (by omega), Int.pow_succ, Int.mul_comm]
      refine ⟨n + 1, by rw [if_neg h1, e]; omega, by rw [hd]; exact h2, fun j hj => ?_⟩
      cases j with
      | zero => rw [Int.pow_zero, Int.ediv_one]; omega
      | succ j => rw [hd]; exact h3 j (by omega)
theorem tz_spec {x : Int} (h : 0 < x) : ∃ n : Nat, tz x = n ∧ x / 2 ^ n % 2 = 1 ∧ ∀ j, j < n → x / 2 ^ j % 2 = 0 := by
  unfold tz
  rw [if_neg (by omega)]
  exact tzF_spec _ x h (Nat.le_refl _)
theorem tz_lt {x : Int} (h : 0 < x) : tz x < bl x := by
  obtain ⟨n, e, h1, _⟩ := tz_spec h
  rcases Int.lt_or_le (tz x) (bl x) with h2 | h2
  · exact h2
  · have h3 := bl_lt x
    have h4 := pow_le_pow (a := (bl x).toNat) (b := n) (by omega)
    rw [Int.ediv_eq_zero_of_lt (by omega) (by omega)] at h1
    omega
end Go.Proofs.Ytjocbnjpjihpnaa.M
end
section
namespace Go.Proofs.Ytjocbnjpjihpnaa.M
open Go.RowKit Go.Proofs.Ytjocbnjpjihpnaa.P Go.Proofs.YtjocbnjpjihpnaaW.PrintWords Go.Proofs.YtjocbnjpjihpnaaW.PrintLast Go.Proofs.YtjocbnjpjihpnaaW.PrintMore
set_option linter.unusedVariables false

theorem ref02_Size_eq (l : List Int) : ∀ (k : Nat) (i : Int), gradineref02_Size.l0 k l i = nat_size.l0 k l i := by
  intro k
  induction k with
  | zero => intros; rfl
  | succ k ih => intros; simp only [gradineref02_Size.l0, nat_size.l0, ih]
theorem ref02_Size_c {l : List Int} (h : Wl l) : Ev (fun k => gradineref02_Size.f k l) ((dg (nv l)).length : Int) := Ev.congr (fun k => ref02_Size_eq ..) (nat_size_c h)
theorem ref02_Trim_l {l : List Int} (hl : l.length ≤ 1000000000) {n : Nat} (hn : n ≤ l.length) (d : Nat) : ∀ i : Nat, i + d = n → Ev (fun k => gradineref02_Trim.l0 k l (l.take i) (n : Int) i) (l.take n) := by
  induction d with
  | zero =>
    intro i hi
    refine Ev.step (fun k => gradineref02_Trim.l0.eq_2 ..) ?_
    obtain rfl : i = n := by omega
    exact Ev.ifn (by omega) (Ev.same rfl)
  | succ d ih =>
    intro i hi
    have e : wrap64 ((i : Int) + 1) = ((i + 1 : Nat) : Int) := by rw [w64_id (by omega) (by omega)]; omega
    refine Ev.step (fun k => gradineref02_Trim.l0.eq_2 ..) ?_
    refine Ev.ifp (by omega) (Ev.ifp (by omega) (Ev.ifp (by omega) (Ev.ifp (by rw [List.length_take]; omega) ?_)))
    rw [e, ← take_rd (by omega)]
    exact ih (i + 1) (by omega)
theorem ref02_Trim_c {l : List Int} (h : Wl l) : Ev (fun k => gradineref02_Trim.f k l) (dg (nv l)) := by
  have h1 := dg_len_list h.1
  refine Ev.bind (ref02_Size_c h) ?_
  have := ref02_Trim_l h.2 h1 (dg (nv l)).length 0 (by omega)
  rw [take_dg h.1] at this
  exact this
theorem rd_out {l : List Int} {i : Nat} (h : l.length ≤ i) : rd l (i : Int) = 0 := by
  unfold rd
  rw [List.getD_eq_getElem?_getD, Int.toNat_natCast, List.getElem?_eq_none h]
  rfl
theorem ref02_at_c (l : List Int) (i : Nat) : gradineref02_at.f l (i : Int) = some (rd l (i : Int)) := by
  unfold gradineref02_at.f
  rw [if_neg (by omega)]
  by_cases h : (i : Int) ≥ (l.length : Int)
  · rw [if_pos h, rd_out (by omega)]
  · rw [if_neg h, if_pos (by omega), if_pos (by omega)]
theorem nv_take_next (l : List Int) (i : Nat) : nv (l.take (i + 1)) = nv (l.take i) + Wp i * rd l (i : Int) := by
  rcases Nat.lt_or_ge i l.length with h | h
  · exact nv_take_succ h
  · rw [rd_out h, take_zero_of_ge h, Int.mul_zero, Int.add_zero]
theorem nv_take_lt {l : List Int} (h : Ws l) (i : Nat) : nv (l.take i) < Wp i := by
  have h1 := nv_lt (Ws_take h i)
  have h2 := Wp_le (List.length_take_le i l)
  omega
theorem take_lt' {a b : List Int} (ha : Ws a) (hb : Ws b) {i : Nat} (hlt : rd a (i : Int) < rd b (i : Int)) : nv (a.take (i + 1)) < nv (b.take (i + 1)) := by
  rw [nv_take_next, nv_take_next]
  have c1 := nv_take_lt ha i
  have c2 := nv_nonneg (Ws_take hb i)
  have c3 := Wp_pos i
  have c4 := Int.mul_le_mul_of_nonneg_left (show rd a (i : Int) + 1 ≤ rd b (i : Int) by omega) (Int.le_of_lt c3)
  rw [Int.mul_add, Int.mul_one] at c4
  omega
theorem cmpI_add (x y z : Int) : cmpI x y = cmpI (x + z) (y + z) := by unfold cmpI; split <;> split <;> first | omega | (split <;> first | omega | (split <;> omega))
theorem ref02_Cmp_l {a b : List Int} (ha : Ws a) (hb : Ws b) (n : Nat) (hn : n ≤ 2000000000) : Ev (fun k => gradineref02_Cmp.l0 k a b ((n : Int) - 1)) (cmpI (nv (a.take n)) (nv (b.take n))) := by
  induction n with
  | zero =>
    refine Ev.step (fun k => gradineref02_Cmp.l0.eq_2 ..) ?_
    exact Ev.ifn (by omega) (Ev.same rfl)
  | succ n ih =>
    have e : ((n + 1 : Nat) : Int) - 1 = (n : Int) := by omega
    rw [e]
    refine Ev.step (fun k => gradineref02_Cmp.l0.eq_2 ..) ?_
    refine Ev.ifp (by omega) (Ev.bindc (ref02_at_c a n) (Ev.bindc (ref02_at_c b n) ?_))
    by_cases c1 : rd a (n : Int) < rd b (n : Int)
    · exact Ev.ifp c1 (Ev.same (by rw [cmpI_lt (take_lt' ha hb c1)]))
    · refine Ev.ifn c1 ?_
      by_cases c2 : rd a (n : Int) > rd b (n : Int)
      · exact Ev.ifp c2 (Ev.same (by rw [cmpI_gt (take_lt' hb ha c2)]))
      · refine Ev.ifn c2 ?_
        rw [w64_id (by omega) (by omega)]
        have e2 : rd a (n : Int) = rd b (n : Int) := by omega
        refine (ih (by omega)).eqr ?_
        rw [nv_take_next, nv_take_next, e2]
        exact cmpI_add ..
theorem ref02_Cmp_c {a b : List Int} (ha : Wl a) (hb : Wl b) : Ev (fun k => gradineref02_Cmp.f k a b) (cmpI (nv a) (nv b)) := by
  have hal := ha.2
  have hbl := hb.2
  have hm : mx (a.length : Int) (b.length : Int) = ((max a.length b.length : Nat) : Int) := by unfold mx; split <;> omega
  unfold gradineref02_Cmp.f
  rw [hm, w64_id (by omega) (by omega)]
  refine (ref02_Cmp_l ha.1 hb.1 (max a.length b.length) (by omega)).eqr ?_
  rw [List.take_of_length_le (by omega), List.take_of_length_le (by omega)]
theorem ref02_Bits_c {l : List Int} (h : Wl l) : Ev (fun k => gradineref02_Bits.f k l) (bl (nv l)) := by
  have hl := h.2
  have hle := dg_len_list h.1
  have h0 := nv_nonneg h.1
  refine Ev.bind (ref02_Size_c h) ?_
  by_cases hz : (dg (nv l)).length = 0
  · refine Ev.ifp (by omega) (Ev.same ?_)
    rw [(dg_len_zero h0).1 hz, bl_zero]
  · obtain ⟨n, hn⟩ : ∃ n, (dg (nv l)).length = n + 1 := ⟨(dg (nv l)).length - 1, by omega⟩
    obtain ⟨hb, hr⟩ := bl_top_word h.1 hn
    have e : wrap64 (((dg (nv l)).length : Int) - 1) = (n : Int) := by rw [w64_id (by omega) (by omega)]; omega
    have hu := U_rd h.1 (n : Int)
    have hb2 := bl_64 hu.2
    have hb3 := bl_nonneg (rd l (n : Int))
    refine Ev.ifn (by omega) ?_
    rw [e]
    refine Ev.ifp (by omega) (Ev.ifp (by omega) (Ev.bind (ref01_Len_c hu) (Ev.same ?_)))
    rw [hb, w64_id (n := 64 * ((dg (nv l)).length : Int)) (by omega) (by omega), w64_id (n := 64 * ((dg (nv l)).length : Int) - 64) (by omega) (by omega), w64_id (by omega) (by omega)]
    congr 1; omega
theorem ref02_Bit_eq (l : List Int) {i : Int} (hi : i ≤ 9223372036854775807) : gradineref02_Bit.f l i = bitF l i := by
  unfold gradineref02_Bit.f bitF
  by_cases h : i ≥ 0
  · rw [if_pos h, if_pos h, Int.tmod_eq_emod_of_nonneg h, wu_id (n := i % 64) (by omega) (by omega)]
  · rw [if_neg h, if_neg h]
theorem ref02_Bit_c {l : List Int} (h : Wl l) {i : Int} (hi : i ≤ 9223372036854775807) : gradineref02_Bit.f l i = some (bitI (nv l) i) := (ref02_Bit_eq l hi).trans (bitF_c h hi)
theorem ref02_Even_l {l : List Int} (h : Wl l) {n : Nat} (h1 : nv l / 2 ^ n % 2 = 1) (h2 : ∀ j, j < n → nv l / 2 ^ j % 2 = 0) (hn : n ≤ 100000000000) (d : Nat) : ∀ i : Nat, i + d = n → Ev (fun k => gradineref02_Even.l0 k l i) (n : Int) := by
  induction d with
  | zero =>
    intro i hi
    obtain rfl : i = n := by omega
    refine Ev.step (fun k => gradineref02_Even.l0.eq_2 ..) ?_
    refine Ev.bindc (ref02_Bit_c h (by omega)) ?_
    refine Ev.ifp ?_ (Ev.same rfl)
    unfold bitI
    rw [Int.toNat_natCast, h1]
    simp
  | succ d ih =>
    intro i hi
    refine Ev.step (fun k => gradineref02_Even.l0.eq_2 ..) ?_
    refine Ev.bindc (ref02_Bit_c h (by omega)) ?_
    refine Ev.ifn ?_ ?_
    · unfold bitI
      rw [Int.toNat_natCast, h2 i (by omega)]
      simp
    · have e : wrap64 ((i : Int) + 1) = ((i + 1 : Nat) : Int) := by rw [w64_id (by omega) (by omega)]; omega
      rw [e]
      exact ih (i + 1) (by omega)
theorem ref02_Even_c {l : List Int} (h : Wl l) : Ev (fun k => gradineref02_Even.f k l) (tz (nv l)) := by
  have hl := h.2
  have hb := bl_nv h.1
  have h0 := nv_nonneg h.1
  refine Ev.bind (ref02_Size_c h) ?_
  rcases (show nv l = 0 ∨ 0 < nv l by omega) with hz | hp
  · rw [hz]
    exact Ev.ifp rfl (Ev.same rfl)
  · obtain ⟨n, e, h1, h2⟩ := tz_spec hp
    have := tz_lt hp
    refine Ev.ifn (fun h => ?_) ?_
    · have := (dg_len_zero h0).1 (by omega); omega
    · rw [e]
      exact ref02_Even_l h h1 h2 (by omega) n 0 (by omega)

/-! ### Half words -/
def hv : List Int → Int
  | [] => 0
  | x :: l => x + 4294967296 * hv l
theorem hv_cons (x : Int) (l : List Int) : hv (x :: l) = x + 4294967296 * hv l := rfl
def Hs (l : List Int) : Prop := ∀ x ∈ l, 0 ≤ x ∧ x < 4294967296
def Hp (n : Nat) : Int := 4294967296 ^ n
theorem Hp_zero : Hp 0 = 1 := rfl
theorem Hp_succ (n : Nat) : Hp (n + 1) = 4294967296 * Hp n := by unfold Hp; rw [Int.pow_succ, Int.mul_comm]
theorem Hp_pos (n : Nat) : 0 < Hp n := by
  induction n with
  | zero => decide
  | succ n ih => rw [Hp_succ]; omega
theorem Hp_le {a b : Nat} (h : a ≤ b) : Hp a ≤ Hp b := by
  induction b with
  | zero => obtain rfl : a = 0 := by omega
            exact Int.le_refl _
  | succ b ih =>
    rcases (show a = b + 1 ∨ a ≤ b by omega) with h1 | h1
    · rw [h1]; exact Int.le_refl _
    · have := ih h1; have := Hp_pos b; rw [Hp_succ]; omega
theorem Hp_Wp (n : Nat) : Hp (2 * n) = Wp n := by
  induction n with
  | zero => rfl
  | succ n ih => rw [show 2 * (n + 1) = 2 * n + 1 + 1 by omega, Hp_succ, Hp_succ, ih, Wp_succ]; omega
theorem Hs_cons {x : Int} {l : List Int} : Hs (x :: l) ↔ (0 ≤ x ∧ x < 4294967296) ∧ Hs l := by unfold Hs; simp
theorem Hs_app {a b : List Int} : Hs (a ++ b) ↔ Hs a ∧ Hs b := by
  unfold Hs
  simp only [List.mem_append]
  exact ⟨fun h => ⟨fun x hx => h x (.inl hx), fun x hx => h x (.inr hx)⟩, fun h x hx => hx.elim (h.1 x) (h.2 x)⟩
theorem Hs_snoc {a : List Int} {x : Int} (ha : Hs a) (h0 : 0 ≤ x) (h1 : x < 4294967296) : Hs (a ++ [x]) := Hs_app.2 ⟨ha, fun y hy => by simp at hy; rw [hy]; exact ⟨h0, h1⟩⟩
theorem Hs_nil : Hs [] := fun x h => by simp at h
theorem Hs_take {l : List Int} (h : Hs l) (n : Nat) : Hs (l.take n) := fun x hx => h x (List.mem_of_mem_take hx)
theorem Hs_drop {l : List Int} (h : Hs l) (n : Nat) : Hs (l.drop n) := fun x hx => h x (List.mem_of_mem_drop hx)
theorem Hs_Ws {l : List Int} (h : Hs l) : Ws l := fun x hx => ⟨(h x hx).1, by have := (h x hx).2; omega⟩
theorem Hs_rd {l : List Int} (h : Hs l) (i : Int) : 0 ≤ rd l i ∧ rd l i < 4294967296 := by
  unfold rd
  rw [List.getD_eq_getElem?_getD]
  rcases Nat.lt_or_ge i.toNat l.length with hi | hi
  · rw [List.getElem?_eq_getElem hi]; exact h _ (List.getElem_mem hi)
  · rw [List.getElem?_eq_none hi]; simp
theorem hv_app (a b : List Int) : hv (a ++ b) = hv a + Hp a.length * hv b := by
  induction a with
  | nil => simp [hv, Hp_zero]
  | cons x a ih => rw [List.cons_append, List.length_cons, Hp_succ, hv_cons, hv_cons, ih]; grind
theorem hv_one (x : Int) : hv [x] = x := by rw [hv_cons]; show x + 4294967296 * 0 = x; omega
theorem hv_snoc (a : List Int) (x : Int) : hv (a ++ [x]) = hv a + Hp a.length * x := by rw [hv_app, hv_one]
theorem hv_nonneg {l : List Int} (h : Hs l) : 0 ≤ hv l := by
  induction l with
  | nil => exact Int.le_refl 0
  | cons x l ih =>
    have h1 := Hs_cons.1 h
    have h2 := ih h1.2
    rw [hv_cons]; omega
theorem hv_lt {l : List Int} (h : Hs l) : hv l < Hp l.length := by
  induction l with
  | nil => decide
  | cons x l ih =>
    have h1 := Hs_cons.1 h
    have h2 := ih h1.2
    rw [List.length_cons, Hp_succ, hv_cons]; omega
theorem hv_take_next (l : List Int) (i : Nat) : hv (l.take (i + 1)) = hv (l.take i) + Hp i * rd l (i : Int) := by
  rcases Nat.lt_or_ge i l.length with h | h
  · rw [take_rd h, hv_snoc, List.length_take, Nat.min_eq_left (by omega)]
  · rw [rd_out h, take_zero_of_ge h, Int.mul_zero, Int.add_zero]
theorem hv_take_lt {l : List Int} (h : Hs l) (i : Nat) : hv (l.take i) < Hp i := by
  have h1 := hv_lt (Hs_take h i)
  have h2 := Hp_le (List.length_take_le i l)
  omega
theorem hv_split (l : List Int) (i : Nat) : hv l = hv (l.take i) + Hp (min i l.length) * hv (l.drop i) := by
  have := hv_app (l.take i) (l.drop i)
  rw [List.take_append_drop, List.length_take] at this
  exact this
theorem hv_zero_of {r : List Int} (h : Ws r) (h0 : nv r = 0) : hv r = 0 := by
  induction r with
  | nil => rfl
  | cons x r ih =>
    have h1 := Ws_cons.1 h
    have h2 := nv_nonneg h1.2
    unfold U at h1
    rw [nv_cons] at h0
    have := ih h1.2 (by omega)
    rw [hv_cons, this]; omega
/-- A list's half words. -/
def hl : List Int → List Int
  | [] => []
  | x :: l => x % 4294967296 :: x / 4294967296 :: hl l
theorem hl_Hs {l : List Int} (h : Ws l) : Hs (hl l) := by
  induction l with
  | nil => exact Hs_nil
  | cons x l ih =>
    have h1 := Ws_cons.1 h
    unfold U at h1
    exact Hs_cons.2 ⟨by omega, Hs_cons.2 ⟨by omega, ih h1.2⟩⟩
theorem hl_hv (l : List Int) : hv (hl l) = nv l := by
  induction l with
  | nil => rfl
  | cons x l ih => show hv (x % 4294967296 :: x / 4294967296 :: hl l) = _; rw [hv_cons, hv_cons, ih, nv_cons]; omega
theorem hl_len (l : List Int) : (hl l).length = 2 * l.length := by
  induction l with
  | nil => rfl
  | cons x l ih => show (x % 4294967296 :: x / 4294967296 :: hl l).length = _; simp [ih]; omega
theorem hl_app (a b : List Int) : hl (a ++ b) = hl a ++ hl b := by
  induction a with
  | nil => rfl
  | cons x a ih => show x % 4294967296 :: x / 4294967296 :: hl (a ++ b) = _; rw [ih]; rfl
def hh (l : List Int) : List Int := dg (nv (hl l))
theorem hh_spec {l : List Int} (h : Ws l) : Hs (hh l) ∧ hv (hh l) = nv l ∧ (hh l).length ≤ 2 * l.length := by
  have h1 := hl_Hs h
  obtain ⟨r, hr, hz⟩ := dg_prefix (Hs_Ws h1)
  have h2 : Hs (dg (nv (hl l)) ++ r) := hr ▸ h1
  have h3 := Hs_app.1 h2
  refine ⟨h3.1, ?_, ?_⟩
  · have h4 := hv_app (dg (nv (hl l))) r
    rw [← hr, hl_hv, hv_zero_of (Hs_Ws h3.2) hz, Int.mul_zero, Int.add_zero] at h4
    exact h4.symm
  · have := dg_len_list (Hs_Ws h1)
    rw [hl_len] at this
    exact this
theorem ref02_Halves_l {a : List Int} (ha : Wl a) (hla : a.length ≤ 400000000) (d : Nat) : ∀ i : Nat, i + d = a.length → Ev (fun k => gradineref02_Halves.l0 k a (hl (a.take i)) (a.length : Int) i) (hh a) := by
  induction d with
  | zero =>
    intro i hi
    refine Ev.step (fun k => gradineref02_Halves.l0.eq_2 ..) ?_
    refine Ev.ifn (by omega) ?_
    rw [List.take_of_length_le (by omega)]
    exact Ev.bind (ref02_Trim_c ⟨Hs_Ws (hl_Hs ha.1), by rw [hl_len]; omega⟩) (Ev.same rfl)
  | succ d ih =>
    intro i hi
    have hx := U_rd ha.1 (i : Int)
    have e : wrap64 ((i : Int) + 1) = ((i + 1 : Nat) : Int) := by rw [w64_id (by omega) (by omega)]; omega
    have hlen : (hl (a.take i)).length = 2 * i := by rw [hl_len, List.length_take]; omega
    refine Ev.step (fun k => gradineref02_Halves.l0.eq_2 ..) ?_
    refine Ev.ifp (by omega) (Ev.ifp (by omega) (Ev.ifp (by omega) (Ev.ifp (by omega) ?_)))
    refine Ev.bindc rfl (Ev.ifp (by rw [List.length_append, hlen]; simp; omega) ?_)
    unfold U at hx
    rw [e, and32 _ hx.1 hx.2]
    have e2 : hl (a.take i) ++ [rd a (i : Int) % 4294967296] ++ [rd a (i : Int) / 4294967296] = hl (a.take (i + 1)) := by
      rw [take_rd (by omega), hl_app, List.append_assoc]; rfl
    rw [e2]
    exact ih (i + 1) (by omega)
theorem ref02_Halves_c {a : List Int} (ha : Wl a) (hla : a.length ≤ 400000000) : Ev (fun k => gradineref02_Halves.f k a) (hh a) := ref02_Halves_l ha hla a.length 0 (by omega)
theorem ref02_Whole_l {h : List Int} (hh : Hs h) (hl : h.length ≤ 1000000000) (d : Nat) : ∀ (j : Nat) (out : List Int), 2 * j + d ≥ h.length → out.length = j → Ws out → j ≤ 600000000 → nv out = hv (h.take (2 * j)) → Ev (fun k => gradineref02_Whole.l0 k h out ((2 * j : Nat) : Int)) (dg (hv h)) := by
  induction d with
  | zero =>
    intro j out hj hlo hwo hj2 he
    refine Ev.step (fun k => gradineref02_Whole.l0.eq_2 ..) ?_
    refine Ev.ifn (by omega) ?_
    rw [List.take_of_length_le (by omega)] at he
    rw [← he]
    exact Ev.bind (ref02_Trim_c ⟨hwo, by omega⟩) (Ev.same rfl)
  | succ d ih =>
    intro j out hj hlo hwo hj2 he
    refine Ev.step (fun k => gradineref02_Whole.l0.eq_2 ..) ?_
    by_cases hend : ((2 * j : Nat) : Int) < (h.length : Int)
    · have x0 := Hs_rd hh ((2 * j : Nat) : Int)
      have y0 := Hs_rd hh ((2 * j + 1 : Nat) : Int)
      have e1 : wrap64 (((2 * j : Nat) : Int) + 1) = ((2 * j + 1 : Nat) : Int) := by rw [w64_id (by omega) (by omega)]; omega
      have e2 : wrap64 (((2 * j : Nat) : Int) + 2) = ((2 * (j + 1) : Nat) : Int) := by rw [w64_id (by omega) (by omega)]; omega
      have step : ∀ w : Int, w = rd h ((2 * j : Nat) : Int) + 4294967296 * rd h ((2 * j + 1 : Nat) : Int) → Ev (fun k => gradineref02_Whole.l0 k h (out ++ [w]) ((2 * (j + 1) : Nat) : Int)) (dg (hv h)) := by
        intro w hw
        refine ih (j + 1) _ (by omega) (by rw [List.length_append, hlo]; rfl) (Wl_snoc hwo (by unfold U; omega)) (by omega) ?_
        rw [nv_snoc, hlo, he, show 2 * (j + 1) = 2 * j + 1 + 1 by omega, hv_take_next, hv_take_next, Hp_succ, Hp_Wp, hw]
        grind
      refine Ev.ifp hend (Ev.ifp (by omega) ?_)
      rw [e1, e2]
      by_cases hn : ((2 * j + 1 : Nat) : Int) < (h.length : Int)
      · refine Ev.ifp hn (Ev.ifp (by omega) (Ev.ifp (by omega) (step _ ?_)))
        rw [wu_id (by omega) (by omega), or_comm _ _ (by omega) (by omega) (by omega) (by omega), or_join 32 _ _ (by omega) (by omega) (by omega) (by omega) (by omega) (by omega)]
        omega
      · refine Ev.ifn hn (Ev.ifp (by omega) (step _ ?_))
        rw [rd_out (i := 2 * j + 1) (by omega)]
        omega
    · refine Ev.ifn hend ?_
      rw [List.take_of_length_le (by omega)] at he
      rw [← he]
      exact Ev.bind (ref02_Trim_c ⟨hwo, by omega⟩) (Ev.same rfl)
theorem ref02_Whole_c {h : List Int} (hh : Hs h) (hl : h.length ≤ 1000000000) : Ev (fun k => gradineref02_Whole.f k h) (dg (hv h)) := ref02_Whole_l hh hl h.length 0 [] (by omega) rfl Ws_nil (by omega) rfl
theorem ref02_Add_l {x y : List Int} (hx : Hs x) (hy : Hs y) {n : Nat} (hn : n ≤ 900000000) (hxn : x.length < n) (hyn : y.length < n) (d : Nat) : ∀ (i : Nat) (out : List Int) (c : Int), i + d = n → out.length = i → Hs out → 0 ≤ c → c ≤ 1 → hv out + Hp i * c = hv (x.take i) + hv (y.take i) → Ev (fun k => gradineref02_Add.l0 k x y out c (n : Int) i) (dg (hv x + hv y)) := by
  induction d with
  | zero =>
    intro i out c hi hlo hwo h0 h1 he
    refine Ev.step (fun k => gradineref02_Add.l0.eq_2 ..) ?_
    refine Ev.ifn (by omega) ?_
    obtain ⟨m, rfl⟩ : ∃ m, i = m + 1 := ⟨i - 1, by omega⟩
    have b1 := hv_take_lt hx m
    have b2 := hv_take_lt hy m
    have b3 := hv_nonneg hwo
    have hp := Hp_pos m
    rw [List.take_of_length_le (by omega)] at b1 b2
    rw [List.take_of_length_le (by omega), List.take_of_length_le (by omega), Hp_succ] at he
    have hc : c = 0 := by
      rcases (show c = 0 ∨ c = 1 by omega) with h | h
      · exact h
      · subst h; omega
    subst hc
    rw [← he, Int.mul_zero, Int.add_zero]
    exact Ev.bind (ref02_Whole_c hwo (by omega)) (Ev.same rfl)
  | succ d ih =>
    intro i out c hi hlo hwo h0 h1 he
    have HE := Hd.mk he
    clear he
    have x0 := Hs_rd hx (i : Int)
    have y0 := Hs_rd hy (i : Int)
    have e : wrap64 ((i : Int) + 1) = ((i + 1 : Nat) : Int) := by rw [w64_id (by omega) (by omega)]; omega
    refine Ev.step (fun k => gradineref02_Add.l0.eq_2 ..) ?_
    refine Ev.ifp (by omega) (Ev.bindc (ref02_at_c x i) (Ev.bindc (ref02_at_c y i) (Ev.ifp (by omega) ?_)))
    rw [e, wu_id (n := c + rd x (i : Int)) (by omega) (by omega), wu_id (by omega) (by omega), and32 _ (by omega) (by omega)]
    refine ih (i + 1) _ _ (by omega) (by rw [List.length_append, hlo]; rfl) (Hs_snoc hwo (by omega) (by omega)) (by omega) (by omega) ?_
    have he := HE.out
    rw [hv_snoc, hlo, hv_take_next, hv_take_next, Hp_succ]
    have hs : c + rd x (i : Int) + rd y (i : Int) = 4294967296 * ((c + rd x (i : Int) + rd y (i : Int)) / 4294967296) + (c + rd x (i : Int) + rd y (i : Int)) % 4294967296 := by omega
    generalize (c + rd x (i : Int) + rd y (i : Int)) / 4294967296 = q at *
    generalize (c + rd x (i : Int) + rd y (i : Int)) % 4294967296 = r at *
    have hc : c = 4294967296 * q + r - rd x (i : Int) - rd y (i : Int) := by omega
    rw [hc] at he
    grind
theorem ref02_Add_c {a b : List Int} (ha : Wl a) (hb : Wl b) (hla : a.length ≤ 400000000) (hlb : b.length ≤ 400000000) : Ev (fun k => gradineref02_Add.f k a b) (dg (nv a + nv b)) := by
  obtain ⟨a1, a2, a3⟩ := hh_spec ha.1
  obtain ⟨b1, b2, b3⟩ := hh_spec hb.1
  refine Ev.bind (ref02_Halves_c ha hla) (Ev.bind (ref02_Halves_c hb hlb) ?_)
  have hm : wrap64 (mx ((hh a).length : Int) ((hh b).length : Int) + 1) = ((max (hh a).length (hh b).length + 1 : Nat) : Int) := by
    unfold mx
    rw [w64_id (by split <;> omega) (by split <;> omega)]
    split <;> omega
  rw [hm, ← a2, ← b2]
  exact ref02_Add_l a1 b1 (n := max (hh a).length (hh b).length + 1) (by omega) (by omega) (by omega) (max (hh a).length (hh b).length + 1) 0 [] 0 (by omega) rfl Hs_nil (by omega) (by omega) rfl
theorem ref02_Sub_l {x y : List Int} (hx : Hs x) (hy : Hs y) (hge : hv y ≤ hv x) (hn : x.length ≤ 900000000) (d : Nat) : ∀ (i : Nat) (out : List Int) (c : Int), i + d = x.length → out.length = i → Hs out → 0 ≤ c → c ≤ 1 → hv out - Hp i * c = hv (x.take i) - hv (y.take i) → Ev (fun k => gradineref02_Sub.l0 k x y out c (x.length : Int) i) (dg (hv x - hv y)) := by
  induction d with
  | zero =>
    intro i out c hi hlo hwo h0 h1 he
    refine Ev.step (fun k => gradineref02_Sub.l0.eq_2 ..) ?_
    refine Ev.ifn (by omega) ?_
    have hi2 : i = x.length := by omega
    subst hi2
    rw [List.take_length] at he
    have hb2 := hv_split y x.length
    have hn1 := hv_nonneg hwo
    have hn2 := hv_lt hwo
    rw [hlo] at hn2
    have hn3 := hv_nonneg (Hs_take hy x.length)
    have hn4 := hv_nonneg (Hs_drop hy x.length)
    have hn5 := hv_lt hx
    have hp := Hp_pos x.length
    have hz : Hp (min x.length y.length) * hv (y.drop x.length) = 0 := by
      rcases Nat.lt_or_ge x.length y.length with hlt | hgt
      · rw [Nat.min_eq_left (by omega)] at hb2 ⊢
        rcases (show hv (y.drop x.length) = 0 ∨ 1 ≤ hv (y.drop x.length) by omega) with h | h
        · rw [h, Int.mul_zero]
        · have := Int.mul_le_mul_of_nonneg_left h (Int.le_of_lt hp)
          omega
      · rw [List.drop_eq_nil_of_le hgt]; simp [hv]
    have hu : c = 0 := by
      rcases (show c = 0 ∨ c = 1 by omega) with h | h
      · exact h
      · subst h; omega
    subst hu
    have e : hv x - hv y = hv out := by omega
    rw [e]
    exact Ev.bind (ref02_Whole_c hwo (by omega)) (Ev.same rfl)
  | succ d ih =>
    intro i out c hi hlo hwo h0 h1 he
    have HE := Hd.mk he
    clear he
    have x0 := Hs_rd hx (i : Int)
    have y0 := Hs_rd hy (i : Int)
    have e : wrap64 ((i : Int) + 1) = ((i + 1 : Nat) : Int) := by rw [w64_id (by omega) (by omega)]; omega
    refine Ev.step (fun k => gradineref02_Sub.l0.eq_2 ..) ?_
    refine Ev.ifp (by omega) (Ev.ifp (by omega) (Ev.ifp (by omega) (Ev.bindc (ref02_at_c y i) (Ev.ifp (by omega) ?_))))
    have hw : IntKind.u64.wrap (IntKind.u64.wrap (IntKind.u64.wrap (4294967296 + rd x (i : Int)) - rd y (i : Int)) - c) = 4294967296 + rd x (i : Int) - rd y (i : Int) - c := by
      rw [wu, wu, wu]; omega
    rw [e, hw, and32 _ (by omega) (by omega), wu_id (n := 1 - (4294967296 + rd x (i : Int) - rd y (i : Int) - c) / 4294967296) (by omega) (by omega)]
    refine ih (i + 1) _ _ (by omega) (by rw [List.length_append, hlo]; rfl) (Hs_snoc hwo (by omega) (by omega)) (by omega) (by omega) ?_
    have he := HE.out
    rw [hv_snoc, hlo, hv_take_next, hv_take_next, Hp_succ]
    have hs : 4294967296 + rd x (i : Int) - rd y (i : Int) - c = 4294967296 * ((4294967296 + rd x (i : Int) - rd y (i : Int) - c) / 4294967296) + (4294967296 + rd x (i : Int) - rd y (i : Int) - c) % 4294967296 := by omega
    generalize (4294967296 + rd x (i : Int) - rd y (i : Int) - c) / 4294967296 = q at *
    generalize (4294967296 + rd x (i : Int) - rd y (i : Int) - c) % 4294967296 = r at *
    have hc : c = 4294967296 + rd x (i : Int) - rd y (i : Int) - 4294967296 * q - r := by omega
    rw [hc] at he
    grind
theorem ref02_Sub_c {a b : List Int} (ha : Wl a) (hb : Wl b) (hla : a.length ≤ 400000000) (hlb : b.length ≤ 400000000) (hge : nv b ≤ nv a) : Ev (fun k => gradineref02_Sub.f k a b) (dg (nv a - nv b)) := by
  obtain ⟨a1, a2, a3⟩ := hh_spec ha.1
  obtain ⟨b1, b2, b3⟩ := hh_spec hb.1
  refine Ev.bind (ref02_Halves_c ha hla) (Ev.bind (ref02_Halves_c hb hlb) ?_)
  rw [← a2, ← b2]
  exact ref02_Sub_l a1 b1 (by omega) (by omega) (hh a).length 0 [] 0 (by omega) rfl Hs_nil (by omega) (by omega) rfl
end Go.Proofs.Ytjocbnjpjihpnaa.M
end
section
namespace Go.Proofs.Ytjocbnjpjihpnaa.M
open Go.RowKit Go.Proofs.Ytjocbnjpjihpnaa.P Go.Proofs.YtjocbnjpjihpnaaW.PrintWords Go.Proofs.YtjocbnjpjihpnaaW.PrintLast Go.Proofs.YtjocbnjpjihpnaaW.PrintMore
set_option linter.unusedVariables false

theorem rd_app_left {a b : List Int} {i : Nat} (h : i < a.length) : rd (a ++ b) (i : Int) = rd a (i : Int) := by
  unfold rd
  rw [List.getD_eq_getElem?_getD, List.getD_eq_getElem?_getD, Int.toNat_natCast, List.getElem?_append_left h]
theorem rd_app_right {a b : List Int} {i : Nat} (h : a.length ≤ i) : rd (a ++ b) (i : Int) = rd b ((i - a.length : Nat) : Int) := by
  unfold rd
  rw [List.getD_eq_getElem?_getD, List.getD_eq_getElem?_getD, Int.toNat_natCast, Int.toNat_natCast, List.getElem?_append_right h]
theorem rd_mid (a : List Int) (x : Int) (b : List Int) : rd (a ++ x :: b) (a.length : Int) = x := by
  rw [rd_app_right (Nat.le_refl _), Nat.sub_self]; rfl
theorem rd_mid1 (a : List Int) (x y : Int) (b : List Int) : rd (a ++ x :: y :: b) ((a.length + 1 : Nat) : Int) = y := by
  rw [rd_app_right (by omega), Nat.add_sub_cancel_left]; rfl
theorem set_mid (a : List Int) (x y : Int) (b : List Int) : (a ++ x :: b).set a.length y = a ++ y :: b := by
  rw [List.set_append_right _ _ (Nat.le_refl _), Nat.sub_self]; rfl
theorem rd_take {l : List Int} {i n : Nat} (h : i < n) : rd (l.take n) (i : Int) = rd l (i : Int) := by
  unfold rd
  rw [List.getD_eq_getElem?_getD, List.getD_eq_getElem?_getD, Int.toNat_natCast, List.getElem?_take_of_lt h]

end Go.Proofs.Ytjocbnjpjihpnaa.M
end
section
namespace Go.Proofs.Ytjocbnjpjihpnaa.M
open Go.RowKit Go.Proofs.Ytjocbnjpjihpnaa.P Go.Proofs.YtjocbnjpjihpnaaW.PrintWords Go.Proofs.YtjocbnjpjihpnaaW.PrintLast Go.Proofs.YtjocbnjpjihpnaaW.PrintMore
set_option linter.unusedVariables false

/-! ### Up -/
theorem ref02_Shl_l2 {o : List Int} (ho : Wl o) (hl : o.length ≤ 999999999) {s : Nat} (hs : s ≤ 63) (hs0 : 1 ≤ s) (i : Nat) : ∀ T : List Int, i < o.length → T.length = o.length - (i + 1) → Ws T → nv (o.take (i + 1)) * 2 ^ s + Wp (i + 1) * (nv T - rd o (i : Int) / 2 ^ (64 - s)) = nv o * 2 ^ s →
    Ev (fun k => gradineref02_Shl.l2 k (o.take (i + 1) ++ T) (s : Int) (i : Int)) (dg (nv o * 2 ^ s)) := by
  have hp := pow_pos s
  have e64 : (64 - (s : Int)).toNat = 64 - s := by omega
  induction i with
  | zero =>
    intro T hi hT hwT he
    have hx := U_rd ho.1 ((0 : Nat) : Int)
    obtain ⟨w1, w2, w3, w4, w5⟩ := shl_word hx hs (c := 0) (by omega) hp
    have e0 : o.take (0 + 1) ++ T = [] ++ rd o ((0 : Nat) : Int) :: T := by rw [take_rd hi]; rfl
    refine Ev.step (fun k => gradineref02_Shl.l2.eq_2 ..) ?_
    refine Ev.ifn (by omega) (Ev.ifp (by rw [e0]; simp) ?_)
    rw [Int.toNat_natCast, e0]
    have er : rd ([] ++ rd o ((0 : Nat) : Int) :: T) 0 = rd o ((0 : Nat) : Int) := rd_mid [] _ T
    have es : ∀ v, ([] ++ rd o ((0 : Nat) : Int) :: T).set (0 : Int).toNat v = v :: T := fun v => rfl
    rw [er, es, wu]
    rw [take_rd hi, nv_snoc] at he
    simp only [List.take_zero, List.length_nil, Wp_zero, Wp_succ, nv, Int.zero_add, Int.one_mul, Int.mul_one] at he
    rw [Int.add_zero] at w5
    have hv : nv (rd o ((0 : Nat) : Int) * 2 ^ s % 18446744073709551616 :: T) = nv o * 2 ^ s := by
      rw [nv_cons]; omega
    rw [← hv]
    exact Ev.bind (ref02_Trim_c ⟨Ws_cons.2 ⟨w5, hwT⟩, by simp; omega⟩) (Ev.same rfl)
  | succ i ih =>
    intro T hi hT hwT he
    have hx := U_rd ho.1 ((i + 1 : Nat) : Int)
    have hy := U_rd ho.1 (i : Int)
    have q0 : 0 ≤ rd o (i : Int) / 2 ^ (64 - s) := Int.ediv_nonneg hy.1 (Int.le_of_lt (pow_pos _))
    have q1 : rd o (i : Int) / 2 ^ (64 - s) < 2 ^ s := by
      rw [Int.ediv_lt_iff_lt_mul (pow_pos _), Int.mul_comm, w_split (by omega)]; exact hy.2
    obtain ⟨w1, w2, w3, w4, w5⟩ := shl_word hx hs q0 q1
    have HE := Hd.mk he
    have W2 := Hd.mk w2
    clear he w2 w3 w4
    have ll : (o.take (i + 1)).length = i + 1 := by rw [List.length_take]; omega
    have e1 : o.take (i + 1 + 1) ++ T = o.take (i + 1) ++ rd o ((i + 1 : Nat) : Int) :: T := by rw [take_rd hi, List.append_assoc]; rfl
    have e2 : rd (o.take (i + 1) ++ rd o ((i + 1 : Nat) : Int) :: T) ((i + 1 : Nat) : Int) = rd o ((i + 1 : Nat) : Int) := by
      have := rd_mid (o.take (i + 1)) (rd o ((i + 1 : Nat) : Int)) T
      rwa [ll] at this
    have e3 : rd (o.take (i + 1) ++ rd o ((i + 1 : Nat) : Int) :: T) (i : Int) = rd o (i : Int) := by
      rw [rd_app_left (by omega), rd_take (by omega)]
    have e4 : ∀ v, (o.take (i + 1) ++ rd o ((i + 1 : Nat) : Int) :: T).set ((i + 1 : Nat) : Int).toNat v = o.take (i + 1) ++ v :: T := by
      intro v
      have := set_mid (o.take (i + 1)) (rd o ((i + 1 : Nat) : Int)) v T
      rwa [ll] at this
    have e5 : wrap64 (((i + 1 : Nat) : Int) - 1) = (i : Int) := by rw [w64_id (by omega) (by omega)]; omega
    have e6 : (o.take (i + 1) ++ rd o ((i + 1 : Nat) : Int) :: T).length = o.length := by rw [List.length_append, List.length_cons, ll, hT]; omega
    rw [e1]
    refine Ev.step (fun k => gradineref02_Shl.l2.eq_2 ..) ?_
    refine Ev.ifp (by omega) (Ev.ifp (by omega) (Ev.ifp (by rw [e6]; omega) ?_))
    rw [e5]
    refine Ev.ifp (by omega) (Ev.ifp (by rw [e6]; omega) ?_)
    rw [e2, e3, e4, e64, Int.toNat_natCast, w1]
    refine ih _ (by omega) (by rw [List.length_cons, hT]; omega) (Ws_cons.2 ⟨w5, hwT⟩) ?_
    rw [← HE.out, nv_cons, nv_take_succ hi, Wp_succ (i + 1)]
    have w2 := W2.out
    generalize rd o ((i + 1 : Nat) : Int) * 2 ^ s % 18446744073709551616 = r at *
    generalize rd o ((i + 1 : Nat) : Int) / 2 ^ (64 - s) = q at *
    generalize rd o (i : Int) / 2 ^ (64 - s) = p at *
    rw [Int.add_mul, Int.mul_assoc, w2]
    grind
theorem ref02_Shl_l1 {a : List Int} (ha : Wl a) (hla : a.length ≤ 900000000) {n m s : Nat} (hn : n = 64 * m + s) (hs : s ≤ 63) (hm : m ≤ 1024) (d : Nat) : ∀ i : Nat, i + d = a.length → Ev (fun k => gradineref02_Shl.l1 k a (n : Int) (List.replicate m 0 ++ a.take i) (a.length : Int) i) (dg (nv a * 2 ^ n)) := by
  induction d with
  | zero =>
    intro i hi
    have hw : Wl (List.replicate m 0 ++ a) := ⟨Ws_app.2 ⟨Ws_zeros _, ha.1⟩, by simp; omega⟩
    have hv : nv (List.replicate m 0 ++ a) = Wp m * nv a := by rw [nv_app, nv_zeros]; simp
    refine Ev.step (fun k => gradineref02_Shl.l1.eq_2 ..) ?_
    refine Ev.ifn (by omega) ?_
    rw [List.take_of_length_le (by omega)]
    by_cases h0 : s = 0
    · refine Ev.ifp (by omega) ?_
      have : nv a * 2 ^ n = nv (List.replicate m 0 ++ a) := by rw [hv, hn, h0, Nat.add_zero, ← Wp_two, Int.mul_comm]
      rw [this]
      exact Ev.bind (ref02_Trim_c hw) (Ev.same rfl)
    · have es : (n : Int) % 64 = (s : Int) := by omega
      rw [es]
      refine Ev.ifn (by omega) (Ev.ifp (by simp; omega) ?_)
      refine Ev.bindc rfl ?_
      have hlen : (List.replicate m 0 ++ a ++ [0]).length = m + a.length + 1 := by simp; omega
      have ew : wrap64 (((List.replicate m 0 ++ a ++ [(0 : Int)]).length : Int) - 1) = ((m + a.length : Nat) : Int) := by rw [hlen, w64_id (by omega) (by omega)]; omega
      rw [ew]
      have hwo : Wl (List.replicate m 0 ++ a ++ [0]) := ⟨Wl_snoc hw.1 (by unfold U; omega), by rw [hlen]; omega⟩
      have hvo : nv (List.replicate m 0 ++ a ++ [0]) = Wp m * nv a := by rw [nv_snoc, hv]; omega
      have h := ref02_Shl_l2 hwo (by rw [hlen]; omega) hs (by omega) (m + a.length) [] (by rw [hlen]; omega) (by rw [hlen]; simp) Ws_nil (by
        have hr : rd (List.replicate m 0 ++ a ++ [(0 : Int)]) ((m + a.length : Nat) : Int) = 0 := by
          have := rd_mid (List.replicate m 0 ++ a) (0 : Int) []
          rwa [show (List.replicate m (0 : Int) ++ a).length = m + a.length by simp] at this
        rw [hr, List.take_of_length_le (by rw [hlen]; omega)]
        simp [nv])
      rw [List.append_nil, List.take_of_length_le (by rw [hlen]; omega)] at h
      refine h.eqr ?_
      rw [hvo, hn, Int.pow_add, ← Wp_two]
      congr 1
      grind
  | succ d ih =>
    intro i hi
    have e : wrap64 ((i : Int) + 1) = ((i + 1 : Nat) : Int) := by rw [w64_id (by omega) (by omega)]; omega
    refine Ev.step (fun k => gradineref02_Shl.l1.eq_2 ..) ?_
    refine Ev.ifp (by omega) (Ev.ifp (by omega) (Ev.ifp (by omega) (Ev.ifp (by simp; omega) ?_)))
    rw [e, List.append_assoc, ← take_rd (by omega)]
    exact ih (i + 1) (by omega)
theorem ref02_Shl_l0 {a : List Int} (ha : Wl a) (hla : a.length ≤ 900000000) {n m s : Nat} (hn : n = 64 * m + s) (hs : s ≤ 63) (hm : m ≤ 1024) (d : Nat) : ∀ i : Nat, i + d = m → Ev (fun k => gradineref02_Shl.l0 k a (n : Int) (List.replicate i 0) (m : Int) i) (dg (nv a * 2 ^ n)) := by
  induction d with
  | zero =>
    intro i hi
    obtain rfl : i = m := by omega
    refine Ev.step (fun k => gradineref02_Shl.l0.eq_2 ..) ?_
    refine Ev.ifn (by omega) ?_
    have h := ref02_Shl_l1 ha hla hn hs hm a.length 0 (by omega)
    rwa [List.take_zero, List.append_nil] at h
  | succ d ih =>
    intro i hi
    have e : wrap64 ((i : Int) + 1) = ((i + 1 : Nat) : Int) := by rw [w64_id (by omega) (by omega)]; omega
    refine Ev.step (fun k => gradineref02_Shl.l0.eq_2 ..) ?_
    refine Ev.ifp (by omega) (Ev.ifp (by simp; omega) ?_)
    rw [e, ← List.replicate_succ']
    exact ih (i + 1) (by omega)
theorem ref02_Shl_c {a : List Int} (ha : Wl a) (hla : a.length ≤ 900000000) (n : Int) : Ev (fun k => gradineref02_Shl.f k a n) (dg (nv a * 2 ^ shn n)) := by
  have hs := shn_le n
  obtain ⟨b, m, hb, hm, hbm⟩ : ∃ b m : Nat, b ≤ 63 ∧ m ≤ 1024 ∧ shn n = 64 * m + b := ⟨shn n % 64, shn n / 64, by omega, by omega, by omega⟩
  unfold gradineref02_Shl.f
  rw [shn_eq, show (shn n : Int) / 64 = (m : Int) by omega]
  exact ref02_Shl_l0 ha hla hbm hb hm m 0 (by omega)

/-! ### Down -/
theorem ref02_Shr_l1 {o : List Int} (ho : Wl o) {s : Nat} (hs : s ≤ 63) (d : Nat) : ∀ (i : Nat) (R : List Int), i + d = o.length → R.length = i → Ws R → nv R + Wp i * (nv (o.drop i) / 2 ^ s) = nv o / 2 ^ s →
    Ev (fun k => gradineref02_Shr.l1 k (R ++ o.drop i) (s : Int) (o.length : Int) i) (dg (nv o / 2 ^ s)) := by
  have hol := ho.2
  have e64 : (64 - (s : Int)).toNat = 64 - s := by omega
  induction d with
  | zero =>
    intro i R hi hR hwR he
    refine Ev.step (fun k => gradineref02_Shr.l1.eq_2 ..) ?_
    refine Ev.ifn (by omega) ?_
    rw [List.drop_eq_nil_of_le (by omega)] at he ⊢
    simp [nv] at he
    rw [← he, List.append_nil]
    exact Ev.bind (ref02_Trim_c ⟨hwR, by omega⟩) (Ev.same rfl)
  | succ d ih =>
    intro i R hi hR hwR he
    have hx := U_rd ho.1 (i : Int)
    have hz := U_rd ho.1 ((i + 1 : Nat) : Int)
    rw [drop_rd (show i < o.length by omega)] at he ⊢
    rw [nv_cons] at he
    have HE := Hd.mk he
    clear he
    have e : wrap64 ((i : Int) + 1) = ((i + 1 : Nat) : Int) := by rw [w64_id (by omega) (by omega)]; omega
    have r1 : rd (R ++ rd o (i : Int) :: o.drop (i + 1)) (i : Int) = rd o (i : Int) := by rw [← hR]; exact rd_mid ..
    have s1 : ∀ v : Int, (R ++ rd o (i : Int) :: o.drop (i + 1)).set (i : Int).toNat v = R ++ v :: o.drop (i + 1) := fun v => by
      rw [Int.toNat_natCast, ← hR]; exact set_mid ..
    have r2 : ∀ v : Int, rd (R ++ v :: o.drop (i + 1)) (i : Int) = v := fun v => by rw [← hR]; exact rd_mid ..
    have s2 : ∀ v u : Int, (R ++ v :: o.drop (i + 1)).set (i : Int).toNat u = R ++ u :: o.drop (i + 1) := fun v u => by
      rw [Int.toNat_natCast, ← hR]; exact set_mid ..
    have l1 : ∀ v : Int, (R ++ v :: o.drop (i + 1)).length = o.length := fun v => by simp [hR]; omega
    refine Ev.step (fun k => gradineref02_Shr.l1.eq_2 ..) ?_
    refine Ev.ifp (by omega) (Ev.ifp (by omega) (Ev.ifp (by rw [l1]; omega) ?_))
    rw [r1, s1, e, Int.toNat_natCast, e64]
    refine Ev.bindc rfl ?_
    have next : ∀ w : Int, U w → (rd o (i : Int) + 18446744073709551616 * nv (o.drop (i + 1))) / 2 ^ s = w + 18446744073709551616 * (nv (o.drop (i + 1)) / 2 ^ s) → Ev (fun k => gradineref02_Shr.l1 k (R ++ w :: o.drop (i + 1)) (s : Int) (o.length : Int) ((i + 1 : Nat) : Int)) (dg (nv o / 2 ^ s)) := by
      intro w hw hq
      have h := ih (i + 1) (R ++ [w]) (by omega) (by rw [List.length_append, hR]; rfl) (Wl_snoc hwR hw) (by
        have he := HE.out
        rw [hq] at he
        rw [nv_snoc, hR, Wp_succ, ← he]
        grind)
      rwa [List.append_assoc] at h
    by_cases hn : ((i + 1 : Nat) : Int) < (o.length : Int)
    · obtain ⟨w1, w2, w3⟩ := shr_word (T := nv (o.drop (i + 1))) hx hz hs ⟨nv (o.drop (i + 1 + 1)), by rw [drop_rd (show i + 1 < o.length by omega), nv_cons]⟩
      have r3 : ∀ v : Int, rd (R ++ v :: o.drop (i + 1)) ((i + 1 : Nat) : Int) = rd o ((i + 1 : Nat) : Int) := fun v => by
        rw [drop_rd (show i + 1 < o.length by omega), ← hR]; exact rd_mid1 ..
      refine Ev.ifp (by rw [l1]; exact hn) (Ev.ifp (by omega) ?_)
      rw [r2, r3, s2]
      have hw : IntKind.u64.wrap (IntKind.u64.wrap (rd o ((i + 1 : Nat) : Int) * 2) * 2 ^ (63 - s)) = IntKind.u64.wrap (rd o ((i + 1 : Nat) : Int) * 2 ^ (64 - s)) := by
        rw [wu, wu, wu, mul_mod_left, Int.mul_assoc, show (2 : Int) * 2 ^ (63 - s) = 2 ^ (64 - s) by rw [show 64 - s = (63 - s) + 1 by omega, Int.pow_succ, Int.mul_comm]]
      rw [hw] at w1
      rw [w1]
      exact next _ w2 w3
    · obtain ⟨w1, w2, w3⟩ := shr_word0 (T := nv (o.drop (i + 1))) hx hs (by rw [List.drop_eq_nil_of_le (by omega)]; rfl)
      refine Ev.ifn (by rw [l1]; exact hn) ?_
      exact next _ w2 w3
theorem ref02_Shr_l0 {a : List Int} (ha : Wl a) {n m s : Nat} (hn : n = 64 * m + s) (hs : s ≤ 63) (d : Nat) : ∀ i : Nat, i + d = a.length → m ≤ i → Ev (fun k => gradineref02_Shr.l0 k a (n : Int) ((a.drop m).take (i - m)) i) (dg (nv a / 2 ^ n)) := by
  have hal := ha.2
  have hdiv : nv a / 2 ^ n = nv (a.drop m) / 2 ^ s := by
    have hp := Wp_pos m
    rw [hn, Int.pow_add, ← Wp_two, ← Int.ediv_ediv_of_nonneg (by omega), nv_div_Wp ha.1]
  induction d with
  | zero =>
    intro i hi hmi
    have hw : Wl (a.drop m) := ⟨Ws_drop ha.1 m, by simp; omega⟩
    refine Ev.step (fun k => gradineref02_Shr.l0.eq_2 ..) ?_
    refine Ev.ifn (by omega) ?_
    rw [List.take_of_length_le (by simp; omega), show (n : Int) % 64 = (s : Int) by omega, hdiv]
    by_cases h0 : s = 0
    · refine Ev.ifp (by omega) ?_
      rw [h0, Int.pow_zero, Int.ediv_one]
      exact Ev.bind (ref02_Trim_c hw) (Ev.same rfl)
    · refine Ev.ifn (by omega) ?_
      exact ref02_Shr_l1 hw hs (a.drop m).length 0 [] (by omega) rfl Ws_nil (by simp [nv, Wp_zero])
  | succ d ih =>
    intro i hi hmi
    have e : wrap64 ((i : Int) + 1) = ((i + 1 : Nat) : Int) := by rw [w64_id (by omega) (by omega)]; omega
    have e2 : (a.drop m).take (i - m) ++ [rd a (i : Int)] = (a.drop m).take (i + 1 - m) := by
      have h1 := take_rd (l := a.drop m) (i := i - m) (by simp; omega)
      have h2 : rd (a.drop m) ((i - m : Nat) : Int) = rd a (i : Int) := by
        unfold rd
        rw [List.getD_eq_getElem?_getD, List.getD_eq_getElem?_getD, Int.toNat_natCast, Int.toNat_natCast, List.getElem?_drop, show m + (i - m) = i by omega]
      rw [h2] at h1
      rw [sub_succ_of hmi, h1]
    refine Ev.step (fun k => gradineref02_Shr.l0.eq_2 ..) ?_
    refine Ev.ifp (by omega) (Ev.ifp (by omega) (Ev.ifp (by simp; omega) ?_))
    rw [e, e2]
    exact ih (i + 1) (by omega) (by omega)
theorem ref02_Shr_c {a : List Int} (ha : Wl a) {n : Int} (hn : n ≤ 9223372036854775807) : Ev (fun k => gradineref02_Shr.f k a n) (dg (nv a / 2 ^ n.toNat)) := by
  have hal := ha.2
  have hmx : mx n 0 = (n.toNat : Int) := by unfold mx; split <;> omega
  obtain ⟨b, m, hb, hbm⟩ : ∃ b m : Nat, b ≤ 63 ∧ n.toNat = 64 * m + b := ⟨n.toNat % 64, n.toNat / 64, by omega, by omega⟩
  have e1 : wrap64 ((n.toNat : Int) / 64) = (m : Int) := by rw [w64_id (by omega) (by omega)]; omega
  unfold gradineref02_Shr.f
  rw [hmx, e1]
  rcases Nat.lt_or_ge m a.length with h | h
  · have := ref02_Shr_l0 ha hbm hb (a.length - m) m (by omega) (Nat.le_refl _)
    rwa [Nat.sub_self, List.take_zero] at this
  · have hz : nv a / 2 ^ n.toNat = 0 := by
      have h1 := nv_lt ha.1
      have h2 := Wp_le h
      rw [hbm, Int.pow_add, ← Wp_two]
      have h3 := pow_pos b
      have h4 := Int.mul_le_mul_of_nonneg_left (show 1 ≤ (2 : Int) ^ b by omega) (Int.le_of_lt (Wp_pos m))
      exact Int.ediv_eq_zero_of_lt (nv_nonneg ha.1) (by omega)
    rw [hz]
    refine Ev.step (fun k => gradineref02_Shr.l0.eq_2 ..) ?_
    refine Ev.ifn (by omega) ?_
    by_cases h0 : (n.toNat : Int) % 64 = 0
    · exact Ev.ifp h0 (Ev.bind (ref02_Trim_c ⟨Ws_nil, by simp⟩) (Ev.same rfl))
    · refine Ev.ifn h0 (Ev.step (fun k => gradineref02_Shr.l1.eq_2 ..) (Ev.ifn (by simp) ?_))
      exact Ev.bind (ref02_Trim_c ⟨Ws_nil, by simp⟩) (Ev.same rfl)
end Go.Proofs.Ytjocbnjpjihpnaa.M
end
section
namespace Go.Proofs.Ytjocbnjpjihpnaa.M
open Go.RowKit Go.Proofs.Ytjocbnjpjihpnaa.P Go.Proofs.YtjocbnjpjihpnaaW.PrintWords Go.Proofs.YtjocbnjpjihpnaaW.PrintLast Go.Proofs.YtjocbnjpjihpnaaW.PrintMore
set_option linter.unusedVariables false

theorem rd_set_ne {l : List Int} {p q : Nat} {v : Int} (h : p ≠ q) : rd (l.set p v) (q : Int) = rd l (q : Int) := by
  unfold rd
  rw [List.getD_eq_getElem?_getD, List.getD_eq_getElem?_getD, Int.toNat_natCast, List.getElem?_set_ne h]
theorem rd_zeros (n : Nat) (i : Nat) : rd (List.replicate n 0) (i : Int) = 0 := by
  unfold rd
  rw [List.getD_eq_getElem?_getD, Int.toNat_natCast, List.getElem?_replicate]; split <;> rfl
end Go.Proofs.Ytjocbnjpjihpnaa.M
end
section
namespace Go.Proofs.Ytjocbnjpjihpnaa.M
open Go.RowKit Go.Proofs.Ytjocbnjpjihpnaa.P Go.Proofs.YtjocbnjpjihpnaaW.PrintWords Go.Proofs.YtjocbnjpjihpnaaW.PrintLast Go.Proofs.YtjocbnjpjihpnaaW.PrintMore
set_option linter.unusedVariables false

theorem hv_set : ∀ (l : List Int) (p : Nat) (v : Int), p < l.length → hv (l.set p v) = hv l + Hp p * (v - rd l (p : Int))
  | [], p, v, h => by simp at h
  | x :: t, 0, v, h => by
    show v + 4294967296 * hv t = x + 4294967296 * hv t + 1 * (v - x)
    omega
  | x :: t, p + 1, v, h => by
    have ih := hv_set t p v (by simpa using h)
    have e : rd (x :: t) ((p + 1 : Nat) : Int) = rd t (p : Int) := by unfold rd; simp
    rw [List.set_cons_succ, hv_cons, hv_cons, ih, e, Hp_succ, Int.mul_add, Int.mul_assoc, Int.add_assoc]
theorem Hs_set {l : List Int} (h : Hs l) (p : Nat) {v : Int} (h0 : 0 ≤ v) (h1 : v < 4294967296) : Hs (l.set p v) := fun x hx => by
  rcases List.mem_or_eq_of_mem_set hx with h2 | h2
  · exact h x h2
  · rw [h2]; exact ⟨h0, h1⟩
theorem Hs_zeros (n : Nat) : Hs (List.replicate n 0) := fun x hx => by rw [List.eq_of_mem_replicate hx]; omega
theorem hv_zeros (n : Nat) : hv (List.replicate n 0) = 0 := by
  induction n with
  | zero => rfl
  | succ n ih => rw [List.replicate_succ, hv_cons, ih]; rfl
theorem Hp_add (a b : Nat) : Hp (a + b) = Hp a * Hp b := by unfold Hp; rw [Int.pow_add]
end Go.Proofs.Ytjocbnjpjihpnaa.M
end
section
namespace Go.Proofs.Ytjocbnjpjihpnaa.M
open Go.RowKit Go.Proofs.Ytjocbnjpjihpnaa.P Go.Proofs.YtjocbnjpjihpnaaW.PrintWords Go.Proofs.YtjocbnjpjihpnaaW.PrintLast Go.Proofs.YtjocbnjpjihpnaaW.PrintMore
set_option linter.unusedVariables false

theorem ref03_Mul_l1 {a b : List Int} (ha : Hs a) (hb : Hs b) (hab : a.length + b.length ≤ 900000000) {i : Nat} (hi : i < a.length) {N : Int}
    (next : ∀ z : List Int, z.length = a.length + b.length + 1 → Hs z → hv z = hv (a.take (i + 1)) * hv b → (∀ p : Nat, i + 1 + b.length ≤ p → rd z (p : Int) = 0) → Ev (fun k => gradineref03_Mul.l0 k a b z (a.length : Int) ((i + 1 : Nat) : Int)) (dg N))
    (d : Nat) : ∀ (j : Nat) (z : List Int) (c : Int), j + d = b.length → z.length = a.length + b.length + 1 → Hs z → 0 ≤ c → c < 4294967296 → hv z + Hp (i + j) * c = hv (a.take i) * hv b + Hp i * (rd a (i : Int) * hv (b.take j)) → (∀ p : Nat, i + b.length ≤ p → rd z (p : Int) = 0) →
    Ev (fun k => gradineref03_Mul.l1 k a b z (i : Int) c (a.length : Int) (i : Int) (b.length : Int) j) (dg N) := by
  have hx := Hs_rd ha (i : Int)
  induction d with
  | zero =>
    intro j z c hj hz hwz hc hc1 he h0
    have HE := Hd.mk he
    clear he
    have e : wrap64 ((i : Int) + (b.length : Int)) = ((i + b.length : Nat) : Int) := by rw [w64_id (by omega) (by omega)]; omega
    have e2 : wrap64 ((i : Int) + 1) = ((i + 1 : Nat) : Int) := by rw [w64_id (by omega) (by omega)]; omega
    refine Ev.step (fun k => gradineref03_Mul.l1.eq_2 ..) ?_
    rw [e, e2]
    refine Ev.ifn (by omega) (Ev.ifp (by omega) (Ev.ifp (by omega) ?_))
    rw [Int.toNat_natCast]
    refine next _ (by simp; omega) (Hs_set hwz _ hc hc1) ?_ ?_
    · rw [hv_set _ _ _ (by omega), h0 _ (Nat.le_refl _), hv_take_next]
      have ej : j = b.length := by omega
      have he := HE.out
      rw [ej, List.take_of_length_le (Nat.le_refl _)] at he
      rw [Int.sub_zero, he, Int.add_mul, Int.mul_assoc]
    · intro p hp
      rw [rd_set_ne (by omega), h0 p (by omega)]
  | succ d ih =>
    intro j z c hj hz hwz hc hc1 he h0
    have HE := Hd.mk he
    clear he
    have hy := Hs_rd hb (j : Int)
    have e : wrap64 ((i : Int) + (j : Int)) = ((i + j : Nat) : Int) := by rw [w64_id (by omega) (by omega)]; rfl
    have e2 : wrap64 ((j : Int) + 1) = ((j + 1 : Nat) : Int) := by rw [w64_id (by omega) (by omega)]; omega
    refine Ev.step (fun k => gradineref03_Mul.l1.eq_2 ..) ?_
    rw [e, e2]
    have hPb := mul_bound (m := 4294967295) (n := 4294967295) hx.1 (Int.le_of_lt_add_one hx.2) hy.1 (Int.le_of_lt_add_one hy.2)
    have hP0 := hPb.1
    have hP1 : rd a (i : Int) * rd b (j : Int) ≤ 18446744065119617025 := Int.le_trans hPb.2 (by decide)
    clear hPb
    have hs := Hs_rd hwz ((i + j : Nat) : Int)
    rw [Int.toNat_natCast]
    generalize hP : rd a (i : Int) * rd b (j : Int) = P at *
    generalize hS : rd z ((i + j : Nat) : Int) = S at *
    have HP := Hd.mk hP
    have HS := Hd.mk hS
    clear hP hS hx hy
    rw [wu_id (n := P) (by omega) (by omega), wu_id (n := c + P) (by omega) (by omega), wu_id (by omega) (by omega), and32 _ (by omega) (by omega)]
    have hq : c + P + S = 4294967296 * ((c + P + S) / 4294967296) + (c + P + S) % 4294967296 := by omega
    have hq0 : 0 ≤ (c + P + S) / 4294967296 ∧ (c + P + S) / 4294967296 < 4294967296 := by omega
    have hr0 : 0 ≤ (c + P + S) % 4294967296 ∧ (c + P + S) % 4294967296 < 4294967296 := by omega
    generalize (c + P + S) / 4294967296 = q at *
    generalize (c + P + S) % 4294967296 = r at *
    refine Ev.ifp (by omega) (Ev.ifp (by omega) (Ev.ifp (by omega) (Ev.ifp (by omega) (Ev.ifp (by omega) (Ev.ifp (by omega) (Ev.ifp (by omega) ?_))))))
    refine ih (j + 1) _ _ (by omega) (by simp; omega) (Hs_set hwz _ hr0.1 hr0.2) hq0.1 hq0.2 ?_ ?_
    · have he := HE.out
      rw [hv_set _ _ _ (by omega), HS.out, hv_take_next, ← Nat.add_assoc, Hp_succ]
      have hc' : c = 4294967296 * q + r - P - S := by omega
      rw [hc', ← HP.out] at he
      have hWa := Hp_add i j
      grind
    · intro p hp
      rw [rd_set_ne (by omega), h0 p hp]
theorem ref03_Mul_l0 {a b : List Int} (ha : Hs a) (hb : Hs b) (hab : a.length + b.length ≤ 900000000) (d : Nat) : ∀ (i : Nat) (z : List Int), i + d = a.length → z.length = a.length + b.length + 1 → Hs z → hv z = hv (a.take i) * hv b → (∀ p : Nat, i + b.length ≤ p → rd z (p : Int) = 0) →
    Ev (fun k => gradineref03_Mul.l0 k a b z (a.length : Int) i) (dg (hv a * hv b)) := by
  induction d with
  | zero =>
    intro i z hi hz hwz he h0
    refine Ev.step (fun k => gradineref03_Mul.l0.eq_2 ..) ?_
    refine Ev.ifn (by omega) ?_
    rw [List.take_of_length_le (by omega)] at he
    rw [← he]
    exact Ev.bind (ref02_Whole_c hwz (by omega)) (Ev.same rfl)
  | succ d ih =>
    intro i z hi hz hwz he h0
    refine Ev.step (fun k => gradineref03_Mul.l0.eq_2 ..) ?_
    refine Ev.ifp (by omega) ?_
    exact ref03_Mul_l1 ha hb hab (by omega) (fun z h1 h2 h3 h4 => ih (i + 1) z (by omega) h1 h2 h3 h4) b.length 0 z 0 (by omega) hz hwz (by omega) (by omega) (by simp [hv]; omega) h0
theorem ref03_Mul_c {a b : List Int} (ha : Wl a) (hb : Wl b) (hla : a.length ≤ 100000000) (hlb : b.length ≤ 100000000) : Ev (fun k => gradineref03_Mul.f k a b) (dg (nv a * nv b)) := by
  obtain ⟨a1, a2, a3⟩ := hh_spec ha.1
  obtain ⟨b1, b2, b3⟩ := hh_spec hb.1
  refine Ev.bind (ref02_Halves_c ha (by omega)) (Ev.bind (ref02_Halves_c hb (by omega)) ?_)
  have e : wrap64 (wrap64 (((hh a).length : Int) + ((hh b).length : Int)) + 1) = (((hh a).length + (hh b).length + 1 : Nat) : Int) := by
    rw [w64_id (n := ((hh a).length : Int) + ((hh b).length : Int)) (by omega) (by omega), w64_id (by omega) (by omega)]; omega
  rw [e, Int.toNat_natCast, ← a2, ← b2]
  refine Ev.ifp (by omega) (Ev.ifp (by omega) ?_)
  exact ref03_Mul_l0 a1 b1 (by omega) (hh a).length 0 _ (by omega) (by simp) (Hs_zeros _) (by rw [hv_zeros, List.take_zero]; simp [hv]) (fun p _ => rd_zeros _ p)
end Go.Proofs.Ytjocbnjpjihpnaa.M
end
section
namespace Go.Proofs.Ytjocbnjpjihpnaa.M
open Go.RowKit Go.Proofs.YtjocbnjpjihpnaaW.PrintWords Go.Proofs.YtjocbnjpjihpnaaW.PrintLast Go.Proofs.YtjocbnjpjihpnaaW.PrintMore
set_option linter.unusedVariables false

def fx (b : Int) : Int := b / 4503599627370496 % 2048
def fr (b : Int) : Int := b % 4503599627370496
def fs (b : Int) : Bool := decide (b ≥ 9223372036854775808)
def sgn (neg : Bool) (b : Int) : Int := if neg then b + 9223372036854775808 else b
def fk (b : Int) : Int := if fx b = 2047 then (if fr b = 0 then 3 else 4) else if fx b = 0 then (if fr b = 0 then 0 else 1) else 2
def pm (b : Int) : Int := if fx b = 0 then fr b else fr b + 4503599627370496
def pe (b : Int) : Int := if fx b = 0 then -1074 else fx b - 1075
def INF : Int := 9218868437227405312
def NAN : Int := 9221120237041090560

theorem mul_cmp {a b c : Int} (h : 0 < c) : (a * c > b * c ↔ a > b) ∧ (a * c = b * c ↔ a = b) := by
  constructor
  · constructor
    · intro h1
      rcases Int.lt_or_le b a with h2 | h2
      · exact h2
      · have := Int.mul_le_mul_of_nonneg_right h2 (Int.le_of_lt h)
        omega
    · intro h1
      exact Int.mul_lt_mul_of_pos_right h1 h
  · exact ⟨fun h1 => Int.eq_of_mul_eq_mul_right (by omega) h1, fun h1 => by rw [h1]⟩
theorem mod_split (M : Int) {G D : Int} (hG : 0 < G) : M % (G * D) = G * (M / G % D) + M % G := by
  rw [Int.emod_def M (G * D), ← Int.ediv_ediv_of_nonneg (by omega), Int.emod_def (M / G) D, Int.emod_def M G]
  grind

/-! ### Rounding: halves to the even one -/
def rnd (M : Int) (d : Nat) : Int := if 2 * (M % 2 ^ d) > 2 ^ d ∨ (2 * (M % 2 ^ d) = 2 ^ d ∧ M / 2 ^ d % 2 = 1) then M / 2 ^ d + 1 else M / 2 ^ d
theorem rnd_zero (M : Int) : rnd M 0 = M := by
  unfold rnd
  rw [Int.pow_zero, Int.ediv_one, Int.emod_one, if_neg (by omega)]
theorem rnd_le (M : Int) (d : Nat) : M / 2 ^ d ≤ rnd M d ∧ rnd M d ≤ M / 2 ^ d + 1 := by
  unfold rnd
  split <;> omega
theorem rnd_small {M : Int} {d : Nat} (h0 : 0 ≤ M) (h : 2 * M < 2 ^ d) : rnd M d = 0 := by
  unfold rnd
  rw [Int.emod_eq_of_lt h0 (by omega), Int.ediv_eq_zero_of_lt h0 (by omega), if_neg (by omega)]
theorem rnd_exact {M : Int} {d : Nat} (h : M % 2 ^ d = 0) : rnd M d = M / 2 ^ d := by
  have := pow_pos d
  unfold rnd
  rw [h, if_neg (by omega)]
theorem rnd_scale (M : Int) (d s : Nat) : rnd (M * 2 ^ s) (d + s) = rnd M d := by
  have hs := pow_pos s
  have e1 : M * 2 ^ s / 2 ^ (d + s) = M / 2 ^ d := by
    rw [Int.pow_add, Int.mul_comm M, Int.mul_comm (2 ^ d), Int.mul_ediv_mul_of_pos _ _ hs]
  have e2 : M * 2 ^ s % 2 ^ (d + s) = M % 2 ^ d * 2 ^ s := by
    rw [Int.pow_add, Int.mul_comm M, Int.mul_comm (2 ^ d), Int.mul_emod_mul_of_pos _ _ hs, Int.mul_comm]
  have e3 := mul_cmp (a := 2 * (M % 2 ^ d)) (b := 2 ^ d) hs
  unfold rnd
  rw [e1, e2, ← Int.mul_assoc, Int.pow_add]
  simp only [e3.1, e3.2]
theorem bl_ge' {x : Int} {n : Nat} (h : 2 ^ n ≤ x) : (n : Int) + 1 ≤ bl x := by
  have := pow_pos n
  have a1 := bl_lt x
  have : n < (bl x).toNat := pow_lt_of (by omega)
  omega
theorem bl_shl {m : Int} (h : 0 < m) (s : Nat) : bl (m * 2 ^ s) = bl m + s := by
  have hp := pow_pos s
  have h1 : 2 ^ s ≤ m * 2 ^ s := by
    have := Int.mul_le_mul_of_nonneg_right (show 1 ≤ m by omega) (Int.le_of_lt hp)
    omega
  rw [bl_shr h1, Int.mul_ediv_cancel _ (by omega)]

/-- The unit of the doubles near m times 2^e. -/
def un (m e : Int) : Int := max (bl m + e - 53) (-1074)
theorem un_ge (m e : Int) : -1074 ≤ un m e := by unfold un; omega
theorem un_scale {m : Int} (h : 0 < m) (e : Int) (s : Nat) : un (m * 2 ^ s) (e - s) = un m e := by
  unfold un
  rw [bl_shl h, show bl m + (s : Int) + (e - s) - 53 = bl m + e - 53 by omega]
/-- m times 2^e in units of 2^u, rounded. -/
def ru (m e u : Int) : Int := rnd (m * 2 ^ (e - u).toNat) (u - e).toNat
theorem ru_scale (m e u : Int) (s : Nat) : ru (m * 2 ^ s) (e - s) u = ru m e u := by
  unfold ru
  rcases Int.lt_or_le u e with h | h
  · obtain ⟨t, ht⟩ : ∃ t : Nat, e - u = t := ⟨(e - u).toNat, by omega⟩
    rw [show (u - e).toNat = 0 by omega, rnd_zero, ht, Int.toNat_natCast]
    rcases Nat.lt_or_ge t s with h2 | h2
    · rw [show (e - s - u).toNat = 0 by omega, show (u - (e - s)).toNat = 0 + (s - t) by omega, Int.pow_zero, Int.mul_one]
      have : m * 2 ^ s = m * 2 ^ t * 2 ^ (s - t) := by rw [Int.mul_assoc, ← Int.pow_add, show t + (s - t) = s by omega]
      rw [this, rnd_scale, rnd_zero]
    · rw [show (e - s - u).toNat = t - s by omega, show (u - (e - s)).toNat = 0 by omega, rnd_zero, Int.mul_assoc, ← Int.pow_add, show s + (t - s) = t by omega]
  · rw [show (e - u).toNat = 0 by omega, show (e - s - u).toNat = 0 by omega, Int.pow_zero, Int.mul_one, Int.mul_one, show (u - (e - s)).toNat = (u - e).toNat + s by omega, rnd_scale]
/-- The word of the double nearest to m times 2^e. -/
def Rd (m e : Int) : Int := if m ≤ 0 then 0 else if un m e > 971 then INF else (un m e + 1074) * 4503599627370496 + ru m e (un m e)
theorem Rd_zero (e : Int) : Rd 0 e = 0 := by unfold Rd; rw [if_pos (by omega)]
theorem Rd_scale {m : Int} (h : 0 < m) (e : Int) (s : Nat) : Rd (m * 2 ^ s) (e - s) = Rd m e := by
  have : 0 < m * 2 ^ s := Int.mul_pos h (pow_pos s)
  unfold Rd
  rw [if_neg (show ¬ m * 2 ^ s ≤ 0 by omega), if_neg (show ¬ m ≤ 0 by omega), un_scale h, ru_scale]

/-! ### Two numbers in one cell -/
theorem le_of_div {X : Int} {g : Nat} (h : 1 ≤ X / 2 ^ g) : 2 ^ g ≤ X := by
  rw [Int.le_ediv_iff_mul_le (pow_pos g)] at h
  omega
theorem div_of_le {X : Int} {g : Nat} (h : 2 ^ g ≤ X) : 1 ≤ X / 2 ^ g := by
  rw [Int.le_ediv_iff_mul_le (pow_pos g)]
  omega
theorem un_cell {X Y c : Int} {g : Nat} (hX : 0 < X) (hY : 0 < Y) (hq : X / 2 ^ g = Y / 2 ^ g) (hu : c + g + 1 ≤ un X c) : un X c = un Y c := by
  have hp := pow_pos g
  unfold un at *
  rcases Int.lt_or_le X (2 ^ g) with h | h
  · have e1 : X / 2 ^ g = 0 := Int.ediv_eq_zero_of_lt (by omega) h
    have h2 : Y < 2 ^ g := by
      rcases Int.lt_or_le Y (2 ^ g) with h' | h'
      · exact h'
      · have := div_of_le h'
        omega
    have b1 := bl_le_of h
    have b2 := bl_le_of h2
    omega
  · have h3 := div_of_le h
    rw [hq] at h3
    rw [bl_shr h, bl_shr (le_of_div h3), hq]
theorem half_cmp {G κ H x : Int} (hG : 0 < G) (h0 : 0 ≤ x) (h1 : x < G) : (2 * (G * κ + x) > G * (2 * H) ↔ (κ > H ∨ (κ = H ∧ x ≠ 0))) ∧ (2 * (G * κ + x) = G * (2 * H) ↔ (κ = H ∧ x = 0)) := by
  rw [show G * (2 * H) = 2 * (G * H) from Int.mul_left_comm ..]
  rcases Int.lt_trichotomy κ H with h | h | h
  · have := Int.mul_le_mul_of_nonneg_left (show κ + 1 ≤ H by omega) (Int.le_of_lt hG)
    rw [Int.mul_add, Int.mul_one] at this
    omega
  · subst h
    omega
  · have := Int.mul_le_mul_of_nonneg_left (show H + 1 ≤ κ by omega) (Int.le_of_lt hG)
    rw [Int.mul_add, Int.mul_one] at this
    omega
theorem rnd_cell {X Y : Int} {d g : Nat} (hgd : g + 1 ≤ d) (hq : X / 2 ^ g = Y / 2 ^ g) (hz : X % 2 ^ g = 0 ↔ Y % 2 ^ g = 0) : rnd X d = rnd Y d := by
  obtain ⟨j, rfl⟩ : ∃ j, d = g + (j + 1) := ⟨d - g - 1, by omega⟩
  have hG := pow_pos g
  have e : (2 : Int) ^ (g + (j + 1)) = 2 ^ g * (2 * 2 ^ j) := by rw [Int.pow_add, Int.pow_succ, Int.mul_comm (2 ^ j)]
  unfold rnd
  have ex : X / (2 ^ g * (2 * 2 ^ j)) = X / 2 ^ g / (2 * 2 ^ j) := (Int.ediv_ediv_of_nonneg (by omega)).symm
  have ey : Y / (2 ^ g * (2 * 2 ^ j)) = Y / 2 ^ g / (2 * 2 ^ j) := (Int.ediv_ediv_of_nonneg (by omega)).symm
  rw [e, mod_split X hG, mod_split Y hG, ex, ey, hq]
  have hx := half_cmp (κ := Y / 2 ^ g % (2 * 2 ^ j)) (H := 2 ^ j) hG (Int.emod_nonneg X (show (2 : Int) ^ g ≠ 0 by omega)) (Int.emod_lt_of_pos X hG)
  have hy := half_cmp (κ := Y / 2 ^ g % (2 * 2 ^ j)) (H := 2 ^ j) hG (Int.emod_nonneg Y (show (2 : Int) ^ g ≠ 0 by omega)) (Int.emod_lt_of_pos Y hG)
  simp only [hx.1, hx.2, hy.1, hy.2, ne_eq, hz]
theorem Rd_cell {X Y c : Int} {g : Nat} (hX : 0 < X) (hY : 0 < Y) (hq : X / 2 ^ g = Y / 2 ^ g) (hz : X % 2 ^ g = 0 ↔ Y % 2 ^ g = 0) (hu : c + g + 1 ≤ un X c) : Rd X c = Rd Y c := by
  have e := un_cell hX hY hq hu
  unfold Rd
  rw [if_neg (show ¬ X ≤ 0 by omega), if_neg (show ¬ Y ≤ 0 by omega), ← e]
  split
  · rfl
  · congr 1
    unfold ru
    rw [show (c - un X c).toNat = 0 by omega, Int.pow_zero, Int.mul_one, Int.mul_one]
    exact rnd_cell (g := g) (by omega) hq hz
/-- A number moved down, its lowest bit set if a bit was lost. -/
def st (M : Int) (s : Nat) : Int := if M % 2 ^ s = 0 then M / 2 ^ s else M / 2 ^ s / 2 * 2 + 1
theorem st_zero (M : Int) : st M 0 = M := by unfold st; rw [Int.pow_zero, Int.emod_one, if_pos rfl, Int.ediv_one]
theorem st_nonneg {M : Int} (h : 0 ≤ M) (s : Nat) : 0 ≤ st M s := by
  have := Int.ediv_nonneg h (Int.le_of_lt (pow_pos s))
  unfold st
  split <;> omega
theorem st_pos {M : Int} (h : 0 < M) (s : Nat) : 0 < st M s := by
  have := Int.ediv_nonneg (Int.le_of_lt h) (Int.le_of_lt (pow_pos s))
  have hd := Int.mul_ediv_add_emod M (2 ^ s)
  unfold st
  split
  · rename_i hz
    rcases (show M / 2 ^ s = 0 ∨ 0 < M / 2 ^ s by omega) with h1 | h1
    · rw [h1, hz, Int.mul_zero] at hd
      omega
    · exact h1
  · omega
theorem st_cell (M : Int) (s : Nat) : (st M s * 2 ^ s) / 2 ^ (s + 1) = M / 2 ^ (s + 1) ∧ ((st M s * 2 ^ s) % 2 ^ (s + 1) = 0 ↔ M % 2 ^ (s + 1) = 0) := by
  have hG := pow_pos s
  have hr := Int.emod_nonneg M (show (2 : Int) ^ s ≠ 0 by omega)
  have e1 : st M s * 2 ^ s / 2 ^ s = st M s := Int.mul_ediv_cancel _ (by omega)
  have e2 : st M s * 2 ^ s % 2 ^ s = 0 := Int.mul_emod_left ..
  rw [Int.pow_succ, mod_split _ hG, mod_split M hG, ← Int.ediv_ediv_of_nonneg (by omega), ← Int.ediv_ediv_of_nonneg (by omega), e1, e2]
  have hk : ∀ k : Int, k = 0 ∨ k = 1 → (2 ^ s * k = 0 ↔ k = 0) := by
    intro k hk
    rcases hk with rfl | rfl
    · simp
    · rw [Int.mul_one]; omega
  have k1 := hk (st M s % 2) (by omega)
  have k2 := hk (M / 2 ^ s % 2) (by omega)
  have p2 : 0 ≤ 2 ^ s * (M / 2 ^ s % 2) := Int.mul_nonneg (by omega) (by omega)
  unfold st at *
  split
  · rename_i hz
    rw [if_pos hz] at k1
    constructor <;> omega
  · rename_i hz
    rw [if_neg hz] at k1
    constructor <;> omega
theorem Rd_st {M e : Int} {s : Nat} (hM : 0 < M) (hu : e + s + 2 ≤ un M e) : Rd (st M s) (e + s) = Rd M e := by
  have h1 := st_pos hM s
  have h2 := st_cell M s
  have h3 := Rd_scale h1 (e + s) s
  rw [show e + (s : Int) - s = e by omega] at h3
  rw [← h3]
  exact (Rd_cell (g := s + 1) hM (Int.mul_pos h1 (pow_pos s)) h2.1.symm h2.2.symm (by omega)).symm

/-! ### How many units there are -/
theorem un_q {m e : Int} (h : 0 < m) : 0 ≤ m * 2 ^ (e - un m e).toNat / 2 ^ (un m e - e).toNat ∧ m * 2 ^ (e - un m e).toNat / 2 ^ (un m e - e).toNat < 9007199254740992 ∧ (un m e = -1074 ∨ 4503599627370496 ≤ m * 2 ^ (e - un m e).toNat / 2 ^ (un m e - e).toNat) := by
  have hu : un m e = max (bl m + e - 53) (-1074) := rfl
  have hb := bl_shl h (e - un m e).toNat
  have hM : 0 < m * 2 ^ (e - un m e).toNat := Int.mul_pos h (pow_pos _)
  have a1 := bl_lt (m * 2 ^ (e - un m e).toNat)
  have a2 := bl_le hM
  have a3 := bl_pos hM
  have hp := pow_pos (un m e - e).toNat
  generalize un m e = u at *
  generalize m * 2 ^ (e - u).toNat = M at *
  have q0 : 0 ≤ M / 2 ^ (u - e).toNat := Int.ediv_nonneg (by omega) (by omega)
  have q1 : M / 2 ^ (u - e).toNat < 9007199254740992 := by
    rw [Int.ediv_lt_iff_lt_mul hp, show (9007199254740992 : Int) = 2 ^ 53 from rfl, ← Int.pow_add]
    have := pow_le_pow (a := (bl M).toNat) (b := 53 + (u - e).toNat) (by omega)
    omega
  refine ⟨q0, q1, ?_⟩
  rcases (show u = -1074 ∨ u = bl m + e - 53 by omega) with h1 | h1
  · exact .inl h1
  · refine .inr ?_
    rw [Int.le_ediv_iff_mul_le hp, show (4503599627370496 : Int) = 2 ^ 52 from rfl, ← Int.pow_add]
    have := pow_le_pow (a := 52 + (u - e).toNat) (b := (bl M - 1).toNat) (by omega)
    omega
theorem ru_units {m e : Int} (h : 0 < m) : 0 ≤ ru m e (un m e) ∧ ru m e (un m e) ≤ 9007199254740992 ∧ (un m e = -1074 ∨ 4503599627370496 ≤ ru m e (un m e)) := by
  have q := un_q (e := e) h
  have r := rnd_le (m * 2 ^ (e - un m e).toNat) (un m e - e).toNat
  unfold ru
  omega
theorem Rd_range (m e : Int) : 0 ≤ Rd m e ∧ Rd m e ≤ INF := by
  unfold Rd INF
  split
  · omega
  · split
    · omega
    · have := ru_units (m := m) (e := e) (by omega)
      have := un_ge m e
      omega
theorem Rd_inf {m e : Int} (h : 0 < m) (he : 1024 ≤ e) : Rd m e = INF := by
  have := bl_pos h
  unfold Rd
  rw [if_neg (by omega), if_pos (by unfold un; omega)]
theorem Rd_none {m e : Int} (h : 0 ≤ m) (he : bl m + e < -1074) : Rd m e = 0 := by
  rcases (show m = 0 ∨ 0 < m by omega) with rfl | h1
  · exact Rd_zero e
  · have hb := bl_pos h1
    have hu : un m e = -1074 := by unfold un; omega
    have hl := bl_lt m
    unfold Rd ru
    rw [hu, if_neg (by omega), if_neg (by omega), show (e - -1074).toNat = 0 by omega, Int.pow_zero, Int.mul_one]
    obtain ⟨j, hj⟩ : ∃ j : Nat, (-1074 - e).toNat = j + 1 := ⟨(-1074 - e).toNat - 1, by omega⟩
    have := pow_le_pow (a := (bl m).toNat) (b := j) (by omega)
    rw [hj, rnd_small h (by rw [Int.pow_succ]; omega)]
    rfl

/-! ### What a number of units is as a double -/
def Mk (neg : Bool) (m e : Int) : Int × Bool :=
  if m = 0 then (sgn neg 0, true) else
    if un m e > 971 ∨ m * 2 ^ (e - un m e).toNat % 2 ^ (un m e - e).toNat ≠ 0 then (0, false) else (sgn neg (Rd m e), true)
theorem Mk_zero (neg : Bool) (e : Int) : Mk neg 0 e = (sgn neg 0, true) := by unfold Mk; rw [if_pos rfl]
theorem Mk_no (neg : Bool) {m e : Int} (h : m ≠ 0) (hc : un m e > 971 ∨ m * 2 ^ (e - un m e).toNat % 2 ^ (un m e - e).toNat ≠ 0) : Mk neg m e = (0, false) := by
  unfold Mk
  rw [if_neg h, if_pos hc]
theorem Mk_yes (neg : Bool) {m e : Int} (h : m ≠ 0) (h1 : un m e ≤ 971) (h2 : m * 2 ^ (e - un m e).toNat % 2 ^ (un m e - e).toNat = 0) : Mk neg m e = (sgn neg (Rd m e), true) := by
  unfold Mk
  rw [if_neg h, if_neg (by rw [not_or]; exact ⟨by omega, fun k => k h2⟩)]
theorem Rd_exact {m e : Int} (h : 0 < m) (h1 : un m e ≤ 971) (h2 : m * 2 ^ (e - un m e).toNat % 2 ^ (un m e - e).toNat = 0) : Rd m e = (un m e + 1074) * 4503599627370496 + m * 2 ^ (e - un m e).toNat / 2 ^ (un m e - e).toNat := by
  unfold Rd ru
  rw [if_neg (by omega), if_neg (by omega), rnd_exact h2]
theorem un_bl {m e : Int} {n : Nat} (h1 : 2 ^ n ≤ m) (h2 : m < 2 ^ (n + 1)) : un m e = max ((n : Int) + e - 52) (-1074) := by
  unfold un
  rw [bl_eq h1 h2]
  congr 1
  omega
/-- Units that are a double's, or rounded up to the next power. -/
theorem Rd_made {w u : Int} (h0 : 0 < w) (h1 : w ≤ 9007199254740992) (hu0 : -1074 ≤ u) (hu1 : u ≤ 971) (hw : u = -1074 ∨ 4503599627370496 ≤ w) :
    (w < 9007199254740992 → un w u = u) ∧ (w = 9007199254740992 → un w u = u + 1) ∧ (un w u ≤ 971 → w * 2 ^ (u - un w u).toNat % 2 ^ (un w u - u).toNat = 0) ∧ Rd w u = (u + 1074) * 4503599627370496 + w := by
  have key : (w < 9007199254740992 → un w u = u) ∧ (w = 9007199254740992 → un w u = u + 1) := by
    constructor
    · intro h
      rcases Int.lt_or_le w 4503599627370496 with h2 | h2
      · have := bl_le_of (x := w) (n := 52) h2
        unfold un
        omega
      · rw [un_bl (n := 52) h2 h]
        omega
    · intro h
      rw [un_bl (n := 53) (by omega) (by omega)]
      omega
  refine ⟨key.1, key.2, ?_⟩
  rcases (show w < 9007199254740992 ∨ w = 9007199254740992 by omega) with h | h
  · have e := key.1 h
    rw [e]
    have e2 : w * 2 ^ (u - u).toNat % 2 ^ (u - u).toNat = 0 := by
      rw [show (u - u).toNat = 0 by omega, Int.pow_zero, Int.emod_one]
    refine ⟨fun _ => e2, ?_⟩
    rw [Rd_exact h0 (by omega) (by rw [e]; exact e2), e, show (u - u).toNat = 0 by omega, Int.pow_zero, Int.mul_one, Int.ediv_one]
  · have e := key.2 h
    rw [e]
    have e2 : w * 2 ^ (u - (u + 1)).toNat % 2 ^ (u + 1 - u).toNat = 0 := by
      rw [show (u - (u + 1)).toNat = 0 by omega, show (u + 1 - u).toNat = 1 by omega, h]
      rfl
    refine ⟨fun _ => e2, ?_⟩
    rcases (show u = 971 ∨ u + 1 ≤ 971 by omega) with h3 | h3
    · unfold Rd INF
      rw [if_neg (by omega), if_pos (by omega)]
      omega
    · rw [Rd_exact h0 (by omega) (by rw [e]; exact e2), e, show (u - (u + 1)).toNat = 0 by omega, show (u + 1 - u).toNat = 1 by omega, h]
      simp only [Int.pow_zero, Int.mul_one, Int.pow_one]
      omega
theorem Mk_made {neg : Bool} {w u : Int} (h0 : 0 ≤ w) (h1 : w ≤ 9007199254740992) (hu0 : -1074 ≤ u) (hu1 : u ≤ 971) (hw : u = -1074 ∨ 4503599627370496 ≤ w) :
    (if (Mk neg w u).2 then (Mk neg w u).1 else sgn neg INF) = sgn neg ((u + 1074) * 4503599627370496 + w) := by
  rcases (show w = 0 ∨ 0 < w by omega) with rfl | h
  · rw [Mk_zero]
    obtain rfl : u = -1074 := by omega
    rfl
  · obtain ⟨k1, k2, k3, k4⟩ := Rd_made h h1 hu0 hu1 hw
    by_cases hc : un w u > 971
    · rw [Mk_no neg (by omega) (.inl hc)]
      have hw2 : w = 9007199254740992 := by omega
      have hu2 : u = 971 := by omega
      rw [hw2, hu2]
      rfl
    · rw [Mk_yes neg (by omega) (by omega) (k3 (by omega)), k4]
      rfl
theorem Mk_scale (neg : Bool) {m : Int} (h : 0 < m) (e : Int) : Mk neg (m * 2) (e - 1) = Mk neg m e := by
  have hu := un_scale h e 1
  have hR := Rd_scale h e 1
  rw [Int.pow_one] at hu hR
  rw [show e - ((1 : Nat) : Int) = e - 1 from rfl] at hu hR
  have : m * 2 * 2 ^ (e - 1 - un m e).toNat % 2 ^ (un m e - (e - 1)).toNat = 0 ↔ m * 2 ^ (e - un m e).toNat % 2 ^ (un m e - e).toNat = 0 := by
    generalize un m e = u
    rcases Int.lt_or_le u e with h1 | h1
    · rw [show (u - e).toNat = 0 by omega, show (u - (e - 1)).toNat = 0 by omega, Int.pow_zero, Int.emod_one, Int.emod_one]
    · rw [show (e - u).toNat = 0 by omega, show (e - 1 - u).toNat = 0 by omega, show (u - (e - 1)).toNat = (u - e).toNat + 1 by omega, Int.pow_succ, Int.pow_zero, Int.mul_one, Int.mul_one, Int.mul_comm m, Int.mul_comm (2 ^ _), Int.mul_emod_mul_of_pos _ _ (by omega)]
      omega
  by_cases hc : un m e > 971 ∨ m * 2 ^ (e - un m e).toNat % 2 ^ (un m e - e).toNat ≠ 0
  · rw [Mk_no neg (by omega) hc, Mk_no neg (by omega) (by rw [hu]; rcases hc with hc | hc; exact .inl hc; exact .inr (fun k => hc (this.1 k)))]
  · rw [not_or] at hc
    have h2 : m * 2 ^ (e - un m e).toNat % 2 ^ (un m e - e).toNat = 0 := Decidable.byContradiction hc.2
    rw [Mk_yes neg (by omega) (by omega) h2, Mk_yes neg (by omega) (by omega) (by rw [hu]; exact this.2 h2), hR]

/-! ### A double's parts -/
theorem fx_range {b : Int} : 0 ≤ fx b ∧ fx b < 2048 := by unfold fx; omega
theorem fr_range {b : Int} : 0 ≤ fr b ∧ fr b < 4503599627370496 := by unfold fr; omega
theorem pm_range (b : Int) : 0 ≤ pm b ∧ pm b < 9007199254740992 := by
  have := @fr_range b
  unfold pm
  split <;> omega
theorem pe_range (b : Int) : -1074 ≤ pe b ∧ pe b ≤ 972 ∧ (fx b ≠ 2047 → pe b ≤ 971) ∧ (pe b = -1074 ∨ 4503599627370496 ≤ pm b) := by
  have := @fx_range b
  have := @fr_range b
  unfold pe pm
  split <;> omega
theorem word_parts {b : Int} (h : U b) : b = sgn (fs b) (fx b * 4503599627370496 + fr b) := by
  unfold U at h
  unfold sgn fs fx fr
  by_cases hb : b ≥ 9223372036854775808
  · rw [decide_eq_true hb, if_pos rfl]; omega
  · rw [decide_eq_false hb, if_neg (by decide)]; omega
theorem Rd_parts {b : Int} (hb : fx b ≠ 2047) : Rd (pm b) (pe b) = fx b * 4503599627370496 + fr b := by
  have h1 := @fx_range b
  have h2 := @fr_range b
  have h3 := pm_range b
  have h4 := pe_range b
  have h5 : (pe b + 1074) * 4503599627370496 + pm b = fx b * 4503599627370496 + fr b := by
    unfold pe pm
    split <;> omega
  rcases (show pm b = 0 ∨ 0 < pm b by omega) with h | h
  · rw [h, Rd_zero]
    omega
  · rw [(Rd_made h (by omega) h4.1 (h4.2.2.1 hb) h4.2.2.2).2.2.2, h5]
theorem fk_eq (b : Int) : (fk b = 4 ↔ fx b = 2047 ∧ fr b ≠ 0) ∧ (fk b = 3 ↔ fx b = 2047 ∧ fr b = 0) ∧ (fk b = 0 ↔ fx b = 0 ∧ fr b = 0) ∧ (fk b = 0 ↔ fx b ≠ 2047 ∧ pm b = 0) ∧ 0 ≤ fk b ∧ fk b ≤ 4 := by
  have h2 := @fr_range b
  unfold fk pm
  by_cases c1 : fx b = 2047
  · rw [if_pos c1]
    by_cases c2 : fr b = 0
    · rw [if_pos c2]; omega
    · rw [if_neg c2]; omega
  · rw [if_neg c1]
    by_cases c3 : fx b = 0
    · rw [if_pos c3, if_pos c3]
      by_cases c2 : fr b = 0
      · rw [if_pos c2]; omega
      · rw [if_neg c2]; omega
    · rw [if_neg c3, if_neg c3]; omega
theorem fk_fin {b : Int} (h4 : fk b ≠ 4) (h3 : fk b ≠ 3) : fx b ≠ 2047 := by
  have := fk_eq b
  omega
end Go.Proofs.Ytjocbnjpjihpnaa.M
end
section
namespace Go.Proofs.Ytjocbnjpjihpnaa.M
open Go.RowKit Go.Proofs.Ytjocbnjpjihpnaa.P Go.Proofs.YtjocbnjpjihpnaaW.PrintWords Go.Proofs.YtjocbnjpjihpnaaW.PrintLast Go.Proofs.YtjocbnjpjihpnaaW.PrintMore
set_option linter.unusedVariables false

theorem rd_of_ge {l : List Int} {i : Nat} (h : l.length ≤ i) : rd l (i : Int) = 0 := rd_out h
/-- The word that holds a bit, with that bit. -/
theorem set_word {x : Int} (hx : U x) {b : Nat} (hb : b ≤ 63) (h0 : x / 2 ^ b % 2 = 0) : Go.bits .or .u64 x (2 ^ b) = x + 2 ^ b ∧ U (x + 2 ^ b) := by
  obtain ⟨hx0, hx1⟩ := hx
  have hp := pow_pos b
  have hp1 := pow_pos (b + 1)
  have hple : (2 : Int) ^ b ≤ 2 ^ 63 := pow_le_pow hb
  -- below and above the bit
  have hs := mod_split x (D := 2) hp
  rw [h0, Int.mul_zero, Int.zero_add] at hs
  rw [show (2 : Int) ^ b * 2 = 2 ^ (b + 1) from (Int.pow_succ ..).symm] at hs
  have hd := Int.mul_ediv_add_emod x (2 ^ (b + 1))
  have r0 := Int.emod_nonneg x (show (2 : Int) ^ b ≠ 0 by omega)
  have r1 := Int.emod_lt_of_pos x hp
  rw [hs] at hd
  have hA0 : 0 ≤ 2 ^ (b + 1) * (x / 2 ^ (b + 1)) := Int.mul_nonneg (by omega) (Int.ediv_nonneg hx0 (by omega))
  have hAm : 2 ^ (b + 1) * (x / 2 ^ (b + 1)) % 2 ^ (b + 1) = 0 := Int.mul_emod_right ..
  have hpp : (2 : Int) ^ (b + 1) * 2 ^ (63 - b) = 18446744073709551616 := by rw [← Int.pow_add, show b + 1 + (63 - b) = 64 by omega]; rfl
  have hq : x / 2 ^ (b + 1) < 2 ^ (63 - b) := by rw [Int.ediv_lt_iff_lt_mul hp1, Int.mul_comm, hpp]; exact hx1
  have htop := Int.mul_le_mul_of_nonneg_left (show x / 2 ^ (b + 1) + 1 ≤ 2 ^ (63 - b) by omega) (Int.le_of_lt hp1)
  rw [hpp, Int.mul_add, Int.mul_one] at htop
  have e2 : (2 : Int) ^ (b + 1) = 2 ^ b * 2 := Int.pow_succ ..
  generalize hA : 2 ^ (b + 1) * (x / 2 ^ (b + 1)) = A at *
  generalize hr : x % 2 ^ b = r at *
  have o1 : Go.bits .or .u64 A r = A + r := or_join (b + 1) _ _ hA0 hAm (by omega) r0 (by omega) (by omega)
  have o2 : Go.bits .or .u64 (2 ^ b) r = 2 ^ b + r := or_join b _ _ (by omega) (Int.emod_self) (by omega) r0 r1 (by omega)
  have o3 : Go.bits .or .u64 A (2 ^ b + r) = A + (2 ^ b + r) := or_join (b + 1) _ _ hA0 hAm (by omega) (by omega) (by omega) (by omega)
  refine ⟨?_, by unfold U; omega⟩
  obtain ⟨a, ha⟩ := Int.eq_ofNat_of_zero_le hA0
  obtain ⟨c, hc⟩ := Int.eq_ofNat_of_zero_le r0
  obtain ⟨p, hpn⟩ := Int.eq_ofNat_of_zero_le (Int.le_of_lt hp)
  have hor : ∀ u v : Nat, u < 2 ^ 64 → v < 2 ^ 64 → Go.bits .or .u64 (u : Int) (v : Int) = ((u ||| v : Nat) : Int) := fun u v hu hv => or_nat u v hu hv
  rw [ha, hc] at o1
  rw [hpn, hc] at o2
  have b1 := hor a c (by omega) (by omega)
  have b2 := hor p c (by omega) (by omega)
  rw [b1] at o1
  rw [b2] at o2
  rw [ha, hpn, hc, ← o2, hor a (p ||| c) (by omega) (by omega)] at o3
  rw [show x = A + r by omega, ha, hc, ← o1, hpn, hor (a ||| c) p (by omega) (by omega), Nat.or_assoc, Nat.or_comm c p, o3, o1, o2]
  omega
theorem tdiv64 (i : Nat) : Int.tdiv (i : Int) 64 = ((i / 64 : Nat) : Int) := by rw [Int.tdiv_eq_ediv_of_nonneg (by omega)]; omega
theorem tmod64 (i : Nat) : Int.tmod (i : Int) 64 = ((i % 64 : Nat) : Int) := by rw [Int.tmod_eq_emod_of_nonneg (by omega)]; omega
theorem w64_nat {n : Nat} (h : n ≤ 1000000000000) : wrap64 (n : Int) = n := w64_id (by omega) (by omega)
theorem wu_nat {n : Nat} (h : n ≤ 1000000000000) : IntKind.u64.wrap (n : Int) = n := wu_id (by omega) (by omega)
theorem w64_next {j : Nat} (h : j ≤ 1000000000000) : wrap64 ((j : Int) + 1) = ((j + 1 : Nat) : Int) := by rw [w64_id (by omega) (by omega)]; omega
theorem shl_bit {b : Nat} (hb : b ≤ 63) : shl .u64 1 (b : Int) = 2 ^ b := by
  have := pow_le_pow (a := b) (b := 63) (by omega)
  have := pow_pos b
  rw [shl_u _ _ (by omega), Int.toNat_natCast, Int.one_mul, Int.emod_eq_of_lt (by omega) (by omega)]
theorem nv_take_more (l : List Int) {i : Nat} (h : l.length ≤ i) : nv (l.take i) = nv l := by rw [List.take_of_length_le h]
theorem ref04_set_l {a : List Int} (ha : Wl a) {i : Nat} (hi : i ≤ 60000000) (hbit : nv a / 2 ^ i % 2 = 0) {n : Nat} (hn : a.length ≤ n) (hn2 : i / 64 < n) (hn3 : n ≤ 1000000000) (d : Nat) : ∀ (j : Nat) (out : List Int), j + d = n → out.length = j → Ws out → nv out = nv (a.take j) + (if i / 64 < j then 2 ^ i else 0) →
    ∃ r, Ev (fun k => gradineref04_set.l0 k a i out (n : Int) j) r ∧ Ws r ∧ r.length = n ∧ nv r = nv a + 2 ^ i := by
  induction d with
  | zero =>
    intro j out hj hlo hwo he
    obtain rfl : j = n := by omega
    refine ⟨out, Ev.step (fun k => gradineref04_set.l0.eq_2 ..) (Ev.ifn (by omega) (Ev.same rfl)), hwo, hlo, ?_⟩
    rw [he, nv_take_more a hn, if_pos hn2]
  | succ d ih =>
    intro j out hj hlo hwo he
    have hx : U (rd a (j : Int)) := U_rd ha.1 _
    -- the word that is put down
    have key : ∀ v : Int, U v → v = rd a (j : Int) + (if i / 64 = j then 2 ^ (i % 64) else 0) → ∃ r, Ev (fun k => gradineref04_set.l0 k a i (out ++ [v]) (n : Int) ((j + 1 : Nat) : Int)) r ∧ Ws r ∧ r.length = n ∧ nv r = nv a + 2 ^ i := by
      intro v hv hve
      refine ih (j + 1) (out ++ [v]) (by omega) (by rw [List.length_append, hlo]; rfl) (Ws_app.2 ⟨hwo, Ws_one hv⟩) ?_
      rw [nv_snoc, he, nv_take_next, hlo, hve]
      by_cases h1 : i / 64 = j
      · rw [if_pos h1, if_neg (show ¬ i / 64 < j by omega), if_pos (show i / 64 < j + 1 by omega)]
        have : (2 : Int) ^ i = Wp j * 2 ^ (i % 64) := by rw [Wp_two, ← Int.pow_add, show 64 * j + i % 64 = i by omega]
        rw [this, Int.mul_add]
        omega
      · rw [if_neg h1, Int.add_zero]
        by_cases h2 : i / 64 < j
        · rw [if_pos h2, if_pos (show i / 64 < j + 1 by omega)]
          omega
        · rw [if_neg h2, if_neg (show ¬ i / 64 < j + 1 by omega)]
          omega
    have hbl := bit_list ha.1 i
    rw [hbit] at hbl
    by_cases hin : j < a.length
    · by_cases h1 : i / 64 = j
      · have hw := set_word hx (b := i % 64) (by omega) (by rw [← h1]; exact hbl.symm)
        obtain ⟨r, hr, hr2⟩ := key _ hw.2 (by rw [if_pos h1])
        refine ⟨r, Ev.step (fun k => gradineref04_set.l0.eq_2 ..) (Ev.ifp (by omega) (Ev.ifp (by omega) (Ev.ifp (by omega) ?_))), hr2⟩
        rw [tdiv64, tmod64, w64_nat (by omega), wu_nat (by omega), shl_bit (by omega), hw.1, w64_next (by omega)]
        exact Ev.ifp (by omega) (Ev.ifp (by omega) (Ev.ifp (by omega) hr))
      · obtain ⟨r, hr, hr2⟩ := key (rd a (j : Int)) hx (by rw [if_neg h1]; omega)
        refine ⟨r, Ev.step (fun k => gradineref04_set.l0.eq_2 ..) (Ev.ifp (by omega) (Ev.ifp (by omega) (Ev.ifp (by omega) ?_))), hr2⟩
        rw [tdiv64, w64_nat (by omega), w64_next (by omega)]
        exact Ev.ifn (by omega) (Ev.ifp (by omega) hr)
    · have hz := rd_of_ge (l := a) (i := j) (by omega)
      by_cases h1 : i / 64 = j
      · have hw := set_word (x := 0) (by unfold U; omega) (b := i % 64) (by omega) (by rw [Int.zero_ediv]; rfl)
        obtain ⟨r, hr, hr2⟩ := key _ hw.2 (by rw [if_pos h1, hz])
        refine ⟨r, Ev.step (fun k => gradineref04_set.l0.eq_2 ..) (Ev.ifp (by omega) (Ev.ifn (by omega) ?_)), hr2⟩
        rw [tdiv64, tmod64, w64_nat (by omega), wu_nat (by omega), shl_bit (by omega), hw.1, w64_next (by omega)]
        exact Ev.ifp (by omega) (Ev.ifp (by omega) (Ev.ifp (by omega) hr))
      · obtain ⟨r, hr, hr2⟩ := key 0 (by unfold U; omega) (by rw [if_neg h1, hz]; omega)
        refine ⟨r, Ev.step (fun k => gradineref04_set.l0.eq_2 ..) (Ev.ifp (by omega) (Ev.ifn (by omega) ?_)), hr2⟩
        rw [tdiv64, w64_nat (by omega), w64_next (by omega)]
        exact Ev.ifn (by omega) (Ev.ifp (by omega) hr)
theorem ref04_set_c {a : List Int} (ha : Wl a) (hla : a.length ≤ 1000000) {i : Nat} (hi : i ≤ 60000000) (hbit : nv a / 2 ^ i % 2 = 0) :
    ∃ r, Ev (fun k => gradineref04_set.f k a i) r ∧ Ws r ∧ r.length = max a.length (i / 64 + 1) ∧ nv r = nv a + 2 ^ i := by
  have hm : mx (a.length : Int) (wrap64 ((wrap64 (Int.tdiv (i : Int) 64)) + 1)) = ((max a.length (i / 64 + 1) : Nat) : Int) := by
    rw [Int.tdiv_eq_ediv_of_nonneg (by omega), w64_id (n := (i : Int) / 64) (by omega) (by omega), w64_id (by omega) (by omega)]
    unfold mx
    split <;> omega
  have := ref04_set_l ha hi hbit (n := max a.length (i / 64 + 1)) (by omega) (by omega) (by omega) (max a.length (i / 64 + 1)) 0 [] (by omega) rfl Ws_nil (by rw [if_neg (by omega)]; rfl)
  unfold gradineref04_set.f
  rw [hm]
  exact this
end Go.Proofs.Ytjocbnjpjihpnaa.M
end
section
namespace Go.Proofs.Ytjocbnjpjihpnaa.M
open Go.RowKit Go.Proofs.YtjocbnjpjihpnaaW.PrintWords Go.Proofs.YtjocbnjpjihpnaaW.PrintLast Go.Proofs.YtjocbnjpjihpnaaW.PrintMore
set_option linter.unusedVariables false

def gc (a b : Int) : Int := (Nat.gcd a.toNat b.toNat : Nat)
theorem gc_nat (a b : Nat) : gc a b = (Nat.gcd a b : Nat) := by unfold gc; rw [Int.toNat_natCast, Int.toNat_natCast]
theorem gc_nonneg (a b : Int) : 0 ≤ gc a b := by unfold gc; omega
theorem gc_comm (a b : Int) : gc a b = gc b a := by unfold gc; rw [Nat.gcd_comm]
theorem gc_zero {a : Int} (h : 0 ≤ a) : gc a 0 = a := by
  obtain ⟨A, rfl⟩ := Int.eq_ofNat_of_zero_le h
  have := gc_nat A 0
  rw [Nat.gcd_zero_right] at this
  exact this
theorem gc_one {a : Int} (h : 0 ≤ a) : gc a 1 = 1 := by
  obtain ⟨A, rfl⟩ := Int.eq_ofNat_of_zero_le h
  have := gc_nat A 1
  rw [Nat.gcd_one_right] at this
  exact this
theorem gc_mod {a b : Int} (ha : 0 ≤ a) (hb : 0 ≤ b) : gc b (a % b) = gc a b := by
  obtain ⟨A, rfl⟩ := Int.eq_ofNat_of_zero_le ha
  obtain ⟨B, rfl⟩ := Int.eq_ofNat_of_zero_le hb
  rw [← Int.natCast_emod, gc_nat, gc_nat, Nat.gcd_comm A B, Nat.gcd_rec B A, Nat.gcd_comm]
theorem gc_sub {x y : Int} (hy : 0 ≤ y) (h : y ≤ x) : gc (x - y) y = gc x y := by
  obtain ⟨X, rfl⟩ := Int.eq_ofNat_of_zero_le (show 0 ≤ x by omega)
  obtain ⟨Y, rfl⟩ := Int.eq_ofNat_of_zero_le hy
  rw [show (X : Int) - Y = ((X - Y : Nat) : Int) by omega, gc_nat, gc_nat, Nat.gcd_sub_self_left (by omega)]
theorem gc_mul {x y c : Int} (hx : 0 ≤ x) (hy : 0 ≤ y) (hc : 0 ≤ c) : gc (x * c) (y * c) = gc x y * c := by
  obtain ⟨X, rfl⟩ := Int.eq_ofNat_of_zero_le hx
  obtain ⟨Y, rfl⟩ := Int.eq_ofNat_of_zero_le hy
  obtain ⟨C, rfl⟩ := Int.eq_ofNat_of_zero_le hc
  rw [← Int.natCast_mul, ← Int.natCast_mul, gc_nat, gc_nat, Nat.gcd_mul_right, Int.natCast_mul]
theorem gc_odd {x y : Int} (hx : 0 ≤ x) (hy : 0 ≤ y) (ho : y % 2 = 1) (t : Nat) : gc (x * 2 ^ t) y = gc x y := by
  obtain ⟨X, rfl⟩ := Int.eq_ofNat_of_zero_le hx
  obtain ⟨Y, rfl⟩ := Int.eq_ofNat_of_zero_le hy
  have e : (X : Int) * 2 ^ t = ((X * 2 ^ t : Nat) : Int) := by rw [Int.natCast_mul, Int.natCast_pow]; rfl
  have hc : Nat.Coprime (2 ^ t) Y := by
    refine Nat.Coprime.pow_left t ?_
    have : Nat.gcd 2 Y = Nat.gcd (Y % 2) 2 := Nat.gcd_rec 2 Y
    rw [show Y % 2 = 1 by omega, Nat.gcd_one_left] at this
    exact this
  rw [e, gc_nat, gc_nat, Nat.Coprime.gcd_mul_right_cancel X hc]
theorem gc_halves {x y : Int} (hx : 0 ≤ x) (hy : 0 ≤ y) (hox : x % 2 = 1) (hoy : y % 2 = 1) (i j : Nat) : gc (x * 2 ^ i) (y * 2 ^ j) = gc x y * 2 ^ (min i j) := by
  have key : ∀ (x y : Int) (i j : Nat), 0 ≤ x → 0 ≤ y → x % 2 = 1 → i ≤ j → gc (x * 2 ^ i) (y * 2 ^ j) = gc x y * 2 ^ i := by
    intro x y i j hx hy hox hij
    have e : y * 2 ^ j = y * 2 ^ (j - i) * 2 ^ i := by rw [Int.mul_assoc, ← Int.pow_add, show j - i + i = j by omega]
    have hp := pow_pos i
    have hp2 := pow_pos (j - i)
    rw [e, gc_mul hx (Int.mul_nonneg hy (by omega)) (by omega), gc_comm x, gc_odd hy hx hox, gc_comm y]
  rcases Nat.le_total i j with h | h
  · rw [key x y i j hx hy hox h, Nat.min_eq_left h]
  · rw [gc_comm, key y x j i hy hx hoy h, Nat.min_eq_right h, gc_comm]
theorem gc_pos {a b : Int} (h : 0 < a ∨ 0 < b) : 0 < gc a b := by
  unfold gc
  have : 0 < Nat.gcd a.toNat b.toNat := by
    rcases h with h | h
    · exact Nat.gcd_pos_of_pos_left _ (by omega)
    · exact Nat.gcd_pos_of_pos_right _ (by omega)
  omega
theorem gc_split {a b : Int} (ha : 0 ≤ a) (hb : 0 ≤ b) : a / gc a b * gc a b = a ∧ b / gc a b * gc a b = b := by
  obtain ⟨A, rfl⟩ := Int.eq_ofNat_of_zero_le ha
  obtain ⟨B, rfl⟩ := Int.eq_ofNat_of_zero_le hb
  rw [gc_nat]
  have h1 := Nat.div_mul_cancel (Nat.gcd_dvd_left A B)
  have h2 := Nat.div_mul_cancel (Nat.gcd_dvd_right A B)
  exact ⟨by exact_mod_cast h1, by exact_mod_cast h2⟩
theorem gc_self {a : Int} (h : 0 ≤ a) : gc a a = a := by
  obtain ⟨A, rfl⟩ := Int.eq_ofNat_of_zero_le h
  rw [gc_nat, Nat.gcd_self]
end Go.Proofs.Ytjocbnjpjihpnaa.M
end
section
namespace Go.Proofs.Ytjocbnjpjihpnaa.M
open Go.RowKit Go.Proofs.Ytjocbnjpjihpnaa.P Go.Proofs.YtjocbnjpjihpnaaW.PrintWords Go.Proofs.YtjocbnjpjihpnaaW.PrintLast Go.Proofs.YtjocbnjpjihpnaaW.PrintMore
set_option linter.unusedVariables false

theorem one_word {l : List Int} (h : Ws l) (h1 : (dg (nv l)).length = 1) : 0 < l.length ∧ rd l 0 = nv l ∧ 0 < nv l ∧ nv l < 18446744073709551616 := by
  have h0 := nv_nonneg h
  have hlt := lt_Wp_dg h0
  rw [h1] at hlt
  have hW : Wp 1 = 18446744073709551616 := by decide
  rw [hW] at hlt
  have hne : nv l ≠ 0 := fun k => by rw [k] at h1; cases h1
  cases l with
  | nil => exact absurd rfl hne
  | cons x l =>
    have hx := Ws_cons.1 h
    have hn := nv_nonneg hx.2
    have hU := hx.1
    unfold U at hU
    rw [nv_cons] at hlt hne h0 ⊢
    refine ⟨by simp, ?_, by omega, hlt⟩
    show x = _
    omega
theorem div_two_step (A : Int) (i : Nat) : A / 2 ^ i = 2 * (A / 2 ^ (i + 1)) + A / 2 ^ i % 2 := by
  rw [Int.pow_succ, ← Int.ediv_ediv_of_nonneg (by have := pow_pos i; omega)]
  omega
theorem ref04_Div_l {a b : List Int} (ha : Wl a) (hb : Wl b) (hla : a.length ≤ 2000) (hlb : b.length ≤ 2000) (hB : 0 < nv b) (j : Nat) (hj : j ≤ 200000) :
    ∀ q r : List Int, Ws q → q.length ≤ 4000 → Ws r → r.length ≤ 4000 → nv q % 2 ^ j = 0 → nv r < nv b → nv a / 2 ^ j = nv q / 2 ^ j * nv b + nv r →
      Ev (fun k => gradineref04_Div.l0 k a b q r ((j : Int) - 1)) (dg (nv a / nv b), dg (nv a % nv b)) := by
  induction j with
  | zero =>
    intro q r hq hlq hr hlr hm hlt he
    refine Ev.step (fun k => gradineref04_Div.l0.eq_2 ..) (Ev.ifn (by omega) ?_)
    rw [Int.pow_zero, Int.ediv_one, Int.ediv_one] at he
    have hr0 := nv_nonneg hr
    have hdiv := (Int.ediv_emod_unique (a := nv a) (b := nv b) (r := nv r) (q := nv q) hB).2 ⟨by rw [he, Int.mul_comm]; omega, hr0, hlt⟩
    rw [hdiv.1, hdiv.2]
    exact Ev.bind (ref02_Trim_c ⟨hq, by omega⟩) (Ev.bind (ref02_Trim_c ⟨hr, by omega⟩) (Ev.same rfl))
  | succ j ih =>
    intro q r hq hlq hr hlr hm hlt he
    have hp := pow_pos j
    have hq0 := nv_nonneg hq
    have hr0 := nv_nonneg hr
    have hA0 := nv_nonneg ha.1
    have ej : ((j + 1 : Nat) : Int) - 1 = (j : Int) := by omega
    rw [ej]
    -- the quotient so far has no bit at j
    have hm' := Int.mul_ediv_add_emod (nv q) (2 ^ (j + 1))
    rw [hm, Int.add_zero, Int.pow_succ, Int.mul_assoc] at hm'
    have hqj : nv q / 2 ^ j = 2 * (nv q / (2 ^ j * 2)) := by
      conv => lhs; rw [← hm']
      rw [Int.mul_ediv_cancel_left _ (by omega)]
    have hbit : nv q / 2 ^ j % 2 = 0 := by rw [hqj]; exact Int.mul_emod_right ..
    have hm3 : nv q % 2 ^ j = 0 := by rw [← hm']; exact Int.mul_emod_right ..
    have hstep := div_two_step (nv a) j
    rw [Int.pow_succ] at hstep he
    refine Ev.step (fun k => gradineref04_Div.l0.eq_2 ..) (Ev.ifp (by omega) ?_)
    have S := ref02_Shl_c (a := r) ⟨hr, by omega⟩ (by omega) 1
    rw [shn_of (by omega) (by omega), show (1 : Int).toNat = 1 from rfl, Int.pow_one] at S
    refine Ev.bind S ?_
    have hbv := bl_nv hb.1
    have br2 : bl (nv r * 2) ≤ 128002 := by
      have := bl_mul (x := nv r) (y := 2) hr0 (by omega)
      have := bl_mono (show nv r ≤ nv b by omega)
      have : bl 2 = 2 := rfl
      omega
    have lr2 := dg_len_bl (nv r * 2)
    -- what is done with the next digit
    have j2 : ∀ z : List Int, Ws z → z.length ≤ 2002 → nv z = nv r * 2 + nv a / 2 ^ j % 2 → Ev (fun k => gradineref04_Div.j2 k a b q z (j : Int)) (dg (nv a / nv b), dg (nv a % nv b)) := by
      intro z hz hlz hnz
      have hb01 : 0 ≤ nv a / 2 ^ j % 2 ∧ nv a / 2 ^ j % 2 < 2 := by omega
      refine Ev.step (fun k => gradineref04_Div.j2.eq_2 ..) (Ev.bind (ref02_Cmp_c (a := z) ⟨hz, by omega⟩ hb) ?_)
      have ew : wrap64 ((j : Int) - 1) = (j : Int) - 1 := w64_id (by omega) (by omega)
      rw [ew]
      have hAj : nv a / 2 ^ j = nv q / 2 ^ j * nv b + nv z := by
        rw [hstep, he, hqj, hnz]
        grind
      by_cases hc : cmpI (nv z) (nv b) ≥ 0
      · have hge : nv b ≤ nv z := by
          unfold cmpI at hc
          split at hc
          · omega
          · omega
        refine Ev.ifp hc ?_
        have D := ref02_Sub_c (a := z) (b := b) ⟨hz, by omega⟩ hb (by omega) (by omega) hge
        refine Ev.bind D ?_
        obtain ⟨t, ht, htw, htl, htn⟩ := ref04_set_c (a := q) ⟨hq, by omega⟩ (by omega) (i := j) (by omega) hbit
        refine Ev.bind ht ?_
        have hz0 := nv_nonneg hz
        have bz := bl_nv hz
        have bzb := bl_mono (show nv z - nv b ≤ nv z by omega)
        have lz := dg_len_bl (nv z - nv b)
        have hq2 : nv t / 2 ^ j = nv q / 2 ^ j + 1 := by
          rw [htn, show nv q + 2 ^ j = nv q + 2 ^ j * 1 by omega, Int.add_mul_ediv_left _ _ (by omega)]
        refine ih (by omega) t (dg (nv z - nv b)) htw (by omega) (dg_Ws _) (by omega) ?_ ?_ ?_
        · rw [htn, Int.add_emod_right]; exact hm3
        · rw [nv_dg (by omega)]; omega
        · rw [nv_dg (by omega), hq2, hAj, Int.add_mul]
          omega
      · have hltz : nv z < nv b := by
          unfold cmpI at hc
          split at hc
          · assumption
          · split at hc <;> omega
        exact Ev.ifn hc (ih (by omega) q z hq hlq hz (by omega) hm3 hltz hAj)
    refine Ev.bindc (ref02_Bit_c ha (by omega)) ?_
    unfold bitI
    rw [Int.toNat_natCast]
    by_cases hbt : nv a / 2 ^ j % 2 = 1
    · refine Ev.ifp (by simp [hbt]) ?_
      obtain ⟨t, ht, htw, htl, htn⟩ := ref04_set_c (a := dg (nv r * 2)) (Wl_dg (by omega)) (by omega) (i := 0) (by omega) (by rw [nv_dg (by omega), Int.pow_zero, Int.ediv_one]; omega)
      refine Ev.bind ht (j2 t htw (by omega) ?_)
      rw [htn, nv_dg (by omega), hbt]
      rfl
    · refine Ev.ifn (by simp [hbt]) (j2 _ (dg_Ws _) (by omega) ?_)
      rw [nv_dg (by omega)]
      omega
theorem ref04_Div_c {a b : List Int} (ha : Wl a) (hb : Wl b) (hla : a.length ≤ 1000) (hlb : b.length ≤ 1000) (hB : 0 < nv b) : Ev (fun k => gradineref04_Div.f k a b) (dg (nv a / nv b), dg (nv a % nv b)) := by
  have hA0 := nv_nonneg ha.1
  have ba := bl_nv ha.1
  have bb := bl_nv hb.1
  have bb0 := bl_pos hB
  have ba0 := bl_nonneg (nv a)
  have no : Ev (fun k => gradineref04_Div.j0 k a b [] false) (dg (nv a / nv b), dg (nv a % nv b)) := by
    refine Ev.step (fun k => gradineref04_Div.j0.eq_2 ..) (Ev.ifn (by decide) ?_)
    refine Ev.bind (ref02_Bits_c ha) (Ev.bind (ref02_Bits_c hb) ?_)
    obtain ⟨j, hj⟩ : ∃ j : Nat, (j : Int) = max 0 (bl (nv a) - bl (nv b) + 1) := ⟨(max 0 (bl (nv a) - bl (nv b) + 1)).toNat, by omega⟩
    have e : mx 0 (wrap64 ((wrap64 (bl (nv a) - bl (nv b))) + 1)) = (j : Int) := by
      rw [w64_id (n := bl (nv a) - bl (nv b)) (by omega) (by omega), w64_id (by omega) (by omega)]
      unfold mx
      generalize bl (nv a) = x at *
      generalize bl (nv b) = y at *
      split <;> omega
    rw [e, w64_id (n := (j : Int) - 1) (by omega) (by omega)]
    have R := ref02_Shr_c ha (n := (j : Int)) (by omega)
    rw [Int.toNat_natCast] at R
    refine Ev.bind R ?_
    have hp := pow_pos j
    have r0 : 0 ≤ nv a / 2 ^ j := Int.ediv_nonneg hA0 (by omega)
    have rle : nv a / 2 ^ j ≤ nv a := Int.ediv_le_self _ hA0
    have br := bl_mono rle
    have lr := dg_len_bl (nv a / 2 ^ j)
    refine ref04_Div_l ha hb (by omega) (by omega) hB j (by omega) [] (dg (nv a / 2 ^ j)) Ws_nil (by simp) (dg_Ws _) (by omega) (by show (0 : Int) % _ = 0; rw [Int.zero_emod]) ?_ ?_
    · rw [nv_dg r0, Int.ediv_lt_iff_lt_mul hp]
      have l1 := bl_lt (nv a)
      have l2 := bl_le hB
      have h3 := Int.mul_le_mul_of_nonneg_right l2 (Int.le_of_lt hp)
      rw [← Int.pow_add] at h3
      have := pow_le_pow (a := (bl (nv a)).toNat) (b := (bl (nv b) - 1).toNat + j) (by omega)
      omega
    · rw [nv_dg r0]
      show _ = (0 : Int) / _ * _ + _
      rw [Int.zero_ediv, Int.zero_mul, Int.zero_add]
  refine Ev.bind (ref02_Size_c ha) ?_
  by_cases h1 : ((dg (nv a)).length : Int) = 1
  · refine Ev.ifp h1 (Ev.bind (ref02_Size_c hb) ?_)
    by_cases h2 : ((dg (nv b)).length : Int) = 1
    · rw [h2]
      obtain ⟨a1, a2, a3, a4⟩ := one_word ha.1 (by omega)
      obtain ⟨b1, b2, b3, b4⟩ := one_word hb.1 (by omega)
      refine Ev.step (fun k => gradineref04_Div.j0.eq_2 ..) (Ev.ifp rfl (Ev.ifp (by omega) (Ev.ifp (by omega) ?_)))
      rw [a2, b2]
      refine Ev.ifn (by omega) ?_
      have q0 : 0 ≤ nv a / nv b := Int.ediv_nonneg hA0 (by omega)
      have q1 : nv a / nv b ≤ nv a := Int.ediv_le_self _ hA0
      have r0 := Int.emod_nonneg (nv a) (show nv b ≠ 0 by omega)
      have r1 := Int.emod_lt_of_pos (nv a) hB
      rw [Int.tdiv_eq_ediv_of_nonneg hA0, Int.tmod_eq_emod_of_nonneg hA0, wu_id q0 (by omega)]
      have T1 := ref02_Trim_c (l := [nv a / nv b]) ⟨Ws_one (by unfold U; omega), by simp⟩
      have T2 := ref02_Trim_c (l := [nv a % nv b]) ⟨Ws_one (by unfold U; omega), by simp⟩
      rw [nv_one] at T1 T2
      exact Ev.bind T1 (Ev.bind T2 (Ev.same rfl))
    · have : (((dg (nv b)).length : Int) == 1) = false := by rw [beq_eq_false_iff_ne]; exact h2
      rw [this]
      exact no
  · exact Ev.ifn h1 no
theorem ref05_Part_c {a g : List Int} (ha : Wl a) (hg : Wl g) (hla : a.length ≤ 1000) (hlg : g.length ≤ 1000) : Ev (fun k => gradineref05_Part.f k a g) (dg (nv a / nv g)) := by
  have hg0 := nv_nonneg hg.1
  refine Ev.bind (ref02_Size_c hg) ?_
  by_cases hz : nv g = 0
  · rw [hz, Int.ediv_zero]
    exact Ev.ifp rfl (Ev.same rfl)
  · refine Ev.ifn (fun k => hz ((dg_len_zero hg0).1 (by omega))) ?_
    have C := ref02_Cmp_c hg (b := [1]) ⟨Ws_one (by unfold U; omega), by decide⟩
    rw [nv_one] at C
    refine Ev.bind C ?_
    by_cases h1 : nv g = 1
    · rw [h1, Int.ediv_one]
      exact Ev.ifp rfl (Ev.bind (ref02_Trim_c ha) (Ev.same rfl))
    · refine Ev.ifn ?_ (Ev.bind (ref04_Div_c ha hg hla hlg (by omega)) (Ev.same rfl))
      unfold cmpI
      split
      · omega
      · split <;> omega

/-! ### The greatest common divisor -/
theorem tz_split {x : Int} (h : 0 < x) : ∃ n : Nat, tz x = n ∧ x = x / 2 ^ n * 2 ^ n ∧ x / 2 ^ n % 2 = 1 := by
  obtain ⟨n, h1, h2, h3⟩ := tz_spec h
  refine ⟨n, h1, ?_, h2⟩
  have key : ∀ j : Nat, j ≤ n → x % 2 ^ j = 0 := by
    intro j
    induction j with
    | zero => intro _; rw [Int.pow_zero, Int.emod_one]
    | succ j ih =>
      intro hj
      rw [Int.pow_succ, mod_split x (pow_pos j), h3 j (by omega), ih (by omega)]
      simp
  have hd := Int.mul_ediv_add_emod x (2 ^ n)
  rw [key n (Nat.le_refl _), Int.add_zero, Int.mul_comm] at hd
  exact hd.symm
theorem ref05_Gcd_l0 (n : Nat) : ∀ x y : Int, y.toNat ≤ n → 0 < x → 0 ≤ y → x < 18446744073709551616 → y < 18446744073709551616 → Ev (fun k => gradineref05_Gcd.l0 k x y) [gc x y] := by
  induction n with
  | zero =>
    intro x y hn h0 h1 h2 h3
    obtain rfl : y = 0 := by omega
    refine Ev.step (fun k => gradineref05_Gcd.l0.eq_2 ..) (Ev.ifn (by omega) (Ev.same ?_))
    rw [gc_zero (by omega)]
  | succ n ih =>
    intro x y hn h0 h1 h2 h3
    refine Ev.step (fun k => gradineref05_Gcd.l0.eq_2 ..) ?_
    by_cases hy : y > 0
    · refine Ev.ifp hy (Ev.ifn (by omega) ?_)
      rw [Int.tmod_eq_emod_of_nonneg (by omega)]
      have r0 := Int.emod_nonneg x (show y ≠ 0 by omega)
      have r1 := Int.emod_lt_of_pos x hy
      rw [← gc_mod (by omega) h1]
      exact ih y (x % y) (by omega) hy r0 h3 (by omega)
    · obtain rfl : y = 0 := by omega
      refine Ev.ifn (by omega) (Ev.same ?_)
      rw [gc_zero (by omega)]
theorem ref05_half {x : Int} (h : 0 < x) (hb : bl x ≤ 64000) : Ev (fun k => gradineref02_Even.f k (dg x)) (tz x) ∧ ∃ n : Nat, tz x = n ∧ n ≤ 64000 ∧ x = x / 2 ^ n * 2 ^ n ∧ x / 2 ^ n % 2 = 1 ∧ 0 < x / 2 ^ n ∧ x / 2 ^ n ≤ x ∧ Ev (fun k => gradineref02_Shr.f k (dg x) (n : Int)) (dg (x / 2 ^ n)) := by
  have w : Wl (dg x) := Wl_dg (by omega)
  have E := ref02_Even_c w
  rw [nv_dg (by omega)] at E
  obtain ⟨n, h1, h2, h3⟩ := tz_split h
  have hlt := tz_lt h
  have S := ref02_Shr_c w (n := (n : Int)) (by omega)
  rw [nv_dg (by omega), Int.toNat_natCast] at S
  have hp := pow_pos n
  have q0 : 0 ≤ x / 2 ^ n := Int.ediv_nonneg (by omega) (by omega)
  have q1 : x / 2 ^ n ≤ x := Int.ediv_le_self _ (by omega)
  exact ⟨E, n, h1, by omega, h2, h3, by omega, q1, S⟩
theorem ref05_Gcd_l1 {c : Int} (hc0 : 0 ≤ c) (hc : c ≤ 64000) (n : Nat) : ∀ x y : Int, (x + y).toNat ≤ n → 0 < x → 0 < y → x % 2 = 1 → y % 2 = 1 → bl x ≤ 64000 → bl y ≤ 64000 → Ev (fun k => gradineref05_Gcd.l1 k c (dg x) (dg y)) (dg (gc x y * 2 ^ c.toNat)) := by
  induction n with
  | zero => intro x y hn h0 h1; omega
  | succ n ih =>
    intro x y hn h0 h1 ho1 ho2 hb1 hb2
    have wx : Wl (dg x) := Wl_dg (by omega)
    have wy : Wl (dg y) := Wl_dg (by omega)
    have lx := dg_len_bl x
    have ly := dg_len_bl y
    have C := ref02_Cmp_c wx wy
    rw [nv_dg (by omega), nv_dg (by omega)] at C
    refine Ev.step (fun k => gradineref05_Gcd.l1.eq_2 ..) (Ev.bind C ?_)
    -- one less by the other, halved
    have more : ∀ u v : Int, 0 < u → 0 < v → u % 2 = 1 → v % 2 = 1 → bl u ≤ 64000 → bl v ≤ 64000 → v < u → (u + v).toNat ≤ n + 1 →
        Ev (fun k => (gradineref02_Sub.f k (dg u) (dg v)).bind fun t => (gradineref02_Even.f k t).bind fun s => (gradineref02_Shr.f k t s).bind fun z => gradineref05_Gcd.l1 k c z (dg v)) (dg (gc u v * 2 ^ c.toNat)) := by
      intro u v hu hv hou hov hbu hbv hlt hs
      have wu : Wl (dg u) := Wl_dg (by omega)
      have wv : Wl (dg v) := Wl_dg (by omega)
      have lu := dg_len_bl u
      have lv := dg_len_bl v
      have D := ref02_Sub_c wu wv (by omega) (by omega) (by rw [nv_dg (by omega), nv_dg (by omega)]; omega)
      rw [nv_dg (by omega), nv_dg (by omega)] at D
      have bd := bl_mono (show u - v ≤ u by omega)
      obtain ⟨E, m, hm1, hm2, hm3, hm4, hm5, hm6, S⟩ := ref05_half (x := u - v) (by omega) (by omega)
      rw [hm1] at E
      refine Ev.bind D (Ev.bind E (Ev.bind S ?_))
      have bq := bl_mono hm6
      have g1 : gc u v = gc ((u - v) / 2 ^ m) v := by
        rw [← gc_sub (by omega) (show v ≤ u by omega)]
        conv => lhs; rw [hm3]
        exact gc_odd (by omega) (by omega) hov m
      rw [g1]
      exact ih _ v (by omega) hm5 hv hm4 hov (by omega) hbv
    by_cases he : x = y
    · refine Ev.ifp (by unfold cmpI; rw [if_neg (by omega), if_neg (by omega)]) ?_
      have S := ref02_Shl_c wx (by omega) c
      rw [nv_dg (by omega), shn_of hc0 (by omega)] at S
      refine Ev.bind S (Ev.same ?_)
      rw [← he, gc_self (by omega)]
    · by_cases hlt : x < y
      · refine Ev.ifn (by unfold cmpI; rw [if_pos hlt]; omega) (Ev.ifp (by unfold cmpI; rw [if_pos hlt]; omega) ?_)
        rw [gc_comm]
        exact more y x h1 h0 ho2 ho1 hb2 hb1 hlt (by omega)
      · have hcm : cmpI x y = 1 := by unfold cmpI; rw [if_neg hlt, if_pos (by omega)]
        refine Ev.ifn (by rw [hcm]; omega) (Ev.ifn (by rw [hcm]; omega) ?_)
        exact more x y h0 h1 ho1 ho2 hb1 hb2 (by omega) (by omega)
theorem ref05_Gcd_c {a b : List Int} (ha : Wl a) (hb : Wl b) (hla : a.length ≤ 1000) (hlb : b.length ≤ 1000) : Ev (fun k => gradineref05_Gcd.f k a b) (dg (gc (nv a) (nv b))) := by
  have hA0 := nv_nonneg ha.1
  have hB0 := nv_nonneg hb.1
  have ba := bl_nv ha.1
  have bb := bl_nv hb.1
  refine Ev.bind (ref02_Size_c ha) ?_
  by_cases hza : nv a = 0
  · refine Ev.ifp (by rw [hza]; rfl) (Ev.bind (ref02_Trim_c hb) (Ev.same ?_))
    rw [hza, gc_comm, gc_zero hB0]
  · refine Ev.ifn (fun k => hza ((dg_len_zero hA0).1 (by omega))) (Ev.bind (ref02_Size_c hb) ?_)
    by_cases hzb : nv b = 0
    · refine Ev.ifp (by rw [hzb]; rfl) (Ev.bind (ref02_Trim_c ha) (Ev.same ?_))
      rw [hzb, gc_zero hA0]
    · refine Ev.ifn (fun k => hzb ((dg_len_zero hB0).1 (by omega))) (Ev.bind (ref02_Size_c ha) ?_)
      have long : Ev (fun k => gradineref05_Gcd.j0 k a b false) (dg (gc (nv a) (nv b))) := by
        refine Ev.step (fun k => gradineref05_Gcd.j0.eq_2 ..) (Ev.ifn (by decide) ?_)
        obtain ⟨n, n1, n2, n3⟩ := tz_split (show 0 < nv a by omega)
        obtain ⟨m, m1, m2, m3⟩ := tz_split (show 0 < nv b by omega)
        have tn := tz_lt (show 0 < nv a by omega)
        have tm := tz_lt (show 0 < nv b by omega)
        have Ea := ref02_Even_c ha
        have Eb := ref02_Even_c hb
        rw [n1] at Ea tn
        rw [m1] at Eb tm
        have Sa := ref02_Shr_c ha (n := (n : Int)) (by omega)
        have Sb := ref02_Shr_c hb (n := (m : Int)) (by omega)
        rw [Int.toNat_natCast] at Sa Sb
        refine Ev.bind Ea (Ev.bind Eb (Ev.bind Ea (Ev.bind Sa (Ev.bind Eb (Ev.bind Sb ?_)))))
        have qa : 0 ≤ nv a / 2 ^ n := Int.ediv_nonneg hA0 (by have := pow_pos n; omega)
        have qb : 0 ≤ nv b / 2 ^ m := Int.ediv_nonneg hB0 (by have := pow_pos m; omega)
        have qa1 : nv a / 2 ^ n ≤ nv a := Int.ediv_le_self _ hA0
        have qb1 : nv b / 2 ^ m ≤ nv b := Int.ediv_le_self _ hB0
        have ba1 := bl_mono qa1
        have bb1 := bl_mono qb1
        have hmn : mn (n : Int) (m : Int) = ((min n m : Nat) : Int) := by unfold mn; split <;> omega
        rw [hmn]
        have L := ref05_Gcd_l1 (c := ((min n m : Nat) : Int)) (by omega) (by omega) (nv a / 2 ^ n + nv b / 2 ^ m).toNat (nv a / 2 ^ n) (nv b / 2 ^ m) (Nat.le_refl _) (by omega) (by omega) n3 m3 (by omega) (by omega)
        rw [Int.toNat_natCast, ← gc_halves qa qb n3 m3 n m, ← n2, ← m2] at L
        exact L
      by_cases h1 : ((dg (nv a)).length : Int) = 1
      · refine Ev.ifp h1 (Ev.bind (ref02_Size_c hb) ?_)
        by_cases h2 : ((dg (nv b)).length : Int) = 1
        · rw [h2]
          obtain ⟨a1, a2, a3, a4⟩ := one_word ha.1 (by omega)
          obtain ⟨b1, b2, b3, b4⟩ := one_word hb.1 (by omega)
          refine Ev.step (fun k => gradineref05_Gcd.j0.eq_2 ..) (Ev.ifp rfl (Ev.ifp (by omega) (Ev.ifp (by omega) ?_)))
          rw [a2, b2]
          have g1 := gc_pos (a := nv a) (b := nv b) (.inl a3)
          have g2 := gc_split hA0 hB0
          have g3 : gc (nv a) (nv b) ≤ nv a := by
            have hq : 0 < nv a / gc (nv a) (nv b) := by
              rcases (show nv a / gc (nv a) (nv b) ≤ 0 ∨ 0 < nv a / gc (nv a) (nv b) by omega) with h | h
              · have := Int.ediv_nonneg hA0 (show 0 ≤ gc (nv a) (nv b) by omega)
                rw [show nv a / gc (nv a) (nv b) = 0 by omega, Int.zero_mul] at g2
                omega
              · exact h
            have := Int.mul_le_mul_of_nonneg_right (show 1 ≤ nv a / gc (nv a) (nv b) by omega) (Int.le_of_lt g1)
            rw [g2.1] at this
            omega
          have L := ref05_Gcd_l0 (nv b).toNat (nv a) (nv b) (Nat.le_refl _) a3 (by omega) a4 b4
          rw [dg_pos g1, dg_nil (by omega), Int.emod_eq_of_lt (by omega) (by omega)]
          exact L
        · have : (((dg (nv b)).length : Int) == 1) = false := by rw [beq_eq_false_iff_ne]; exact h2
          rw [this]
          exact long
      · exact Ev.ifn h1 long
end Go.Proofs.Ytjocbnjpjihpnaa.M
end
section
namespace Go.Proofs.Ytjocbnjpjihpnaa.M
open Go.RowKit Go.Proofs.YtjocbnjpjihpnaaW.PrintWords Go.Proofs.YtjocbnjpjihpnaaW.PrintLast Go.Proofs.YtjocbnjpjihpnaaW.PrintMore
set_option linter.unusedVariables false

def ab (x : Int) : Int := if x < 0 then -x else x
/-- The number S / D. -/
def Rq (S D : Int) : Bool × List Int × List Int := if S = 0 then (false, [], [1]) else (decide (S < 0), dg (ab S / gc (ab S) D), dg (D / gc (ab S) D))
theorem gc_le {a b : Int} (ha : 0 ≤ a) (hb : 0 < b) : a / gc a b ≤ a ∧ b / gc a b ≤ b ∧ 0 < b / gc a b ∧ 0 ≤ a / gc a b := by
  have g := gc_pos (a := a) (b := b) (.inr hb)
  have s := gc_split ha (Int.le_of_lt hb)
  have h0 : 0 ≤ b / gc a b := Int.ediv_nonneg (by omega) (by omega)
  refine ⟨Int.ediv_le_self _ ha, Int.ediv_le_self _ (by omega), ?_, Int.ediv_nonneg ha (by omega)⟩
  rcases (show b / gc a b = 0 ∨ 0 < b / gc a b by omega) with h | h
  · rw [h, Int.zero_mul] at s
    omega
  · exact h
def sgI (s : Bool) (N : Int) : Int := if s then -N else N
end Go.Proofs.Ytjocbnjpjihpnaa.M
end
section
namespace Go.Proofs.Ytjocbnjpjihpnaa.M
open Go.RowKit Go.Proofs.Ytjocbnjpjihpnaa.P Go.Proofs.YtjocbnjpjihpnaaW.PrintWords Go.Proofs.YtjocbnjpjihpnaaW.PrintLast Go.Proofs.YtjocbnjpjihpnaaW.PrintMore
set_option linter.unusedVariables false

theorem Rq_of (neg : Bool) {n d : Int} (hn : 0 < n) : Rq (sgI neg n) d = (neg, dg (n / gc n d), dg (d / gc n d)) := by
  cases neg
  · show Rq n d = _
    have : ab n = n := by unfold ab; rw [if_neg (by omega)]
    unfold Rq
    rw [if_neg (show ¬ n = 0 by omega), decide_eq_false (show ¬ n < 0 by omega), this]
  · show Rq (-n) d = _
    have : ab (-n) = n := by unfold ab; rw [if_pos (by omega)]; omega
    unfold Rq
    rw [if_neg (show ¬ -n = 0 by omega), decide_eq_true (show -n < 0 by omega), this]
theorem Rq_zero (neg : Bool) (d : Int) : Rq (sgI neg 0) d = (false, [], [1]) := by
  unfold Rq sgI
  cases neg <;> rfl
theorem ref07_Make_c {a b : List Int} (neg : Bool) (ha : Wl a) (hb : Wl b) (hla : a.length ≤ 1000) (hlb : b.length ≤ 1000) (hB : 0 < nv b) : Ev (fun k => gradineref07_Make.f k neg a b) (Rq (sgI neg (nv a)) (nv b)) := by
  have hA0 := nv_nonneg ha.1
  refine Ev.bind (ref02_Size_c ha) ?_
  by_cases hz : nv a = 0
  · rw [hz, Rq_zero]
    exact Ev.ifp rfl (Ev.same rfl)
  · rw [Rq_of neg (by omega)]
    refine Ev.ifn (fun k => hz ((dg_len_zero hA0).1 (by omega))) (Ev.bind (ref05_Gcd_c ha hb hla hlb) ?_)
    have g := gc_nonneg (nv a) (nv b)
    have gle : gc (nv a) (nv b) ≤ nv a := by
      have s := gc_split hA0 (Int.le_of_lt hB)
      have l := gc_le (a := nv b) (b := nv a) (Int.le_of_lt hB) (by omega)
      rw [gc_comm] at l
      have := Int.mul_le_mul_of_nonneg_right (show 1 ≤ nv a / gc (nv a) (nv b) by omega) g
      rw [s.1] at this
      omega
    have ba := bl_nv ha.1
    have bg := bl_mono gle
    have lg := dg_len_bl (gc (nv a) (nv b))
    have P1 := ref05_Part_c ha (g := dg (gc (nv a) (nv b))) (Wl_dg (by omega)) hla (by omega)
    have P2 := ref05_Part_c hb (g := dg (gc (nv a) (nv b))) (Wl_dg (by omega)) hlb (by omega)
    rw [nv_dg g] at P1 P2
    exact Ev.bind P1 (Ev.bind P2 (Ev.same rfl))
end Go.Proofs.Ytjocbnjpjihpnaa.M
end
section
namespace Go.Proofs.Ytjocbnjpjihpnaa.M
open Go.RowKit Go.Proofs.Ytjocbnjpjihpnaa.P Go.Proofs.YtjocbnjpjihpnaaW.PrintWords Go.Proofs.YtjocbnjpjihpnaaW.PrintLast Go.Proofs.YtjocbnjpjihpnaaW.PrintMore
set_option linter.unusedVariables false

theorem ref07_Of_c {n : Int} (h0 : -9223372036854775808 ≤ n) (h1 : n ≤ 9223372036854775807) : Ev (fun k => gradineref07_Of.f k n) (Rq n 1) := by
  have w1 : Wl [1] := ⟨Ws_one (by unfold U; omega), by decide⟩
  by_cases hn : n < 0
  · have e : IntKind.u64.wrap (-(IntKind.u64.wrap n)) = -n := by
      have : IntKind.u64.wrap n = n + 18446744073709551616 := by
        show n % 18446744073709551616 = _
        omega
      rw [this]
      show (-(n + 18446744073709551616)) % 18446744073709551616 = _
      omega
    refine Ev.ifp hn ?_
    rw [e]
    have M := ref07_Make_c true (a := [-n]) (b := [1]) ⟨Ws_one (by unfold U; omega), by simp⟩ w1 (by simp) (by decide) (by rw [nv_one]; omega)
    rw [nv_one, nv_one, show sgI true (-n) = n by unfold sgI; simp] at M
    exact Ev.bind M (Ev.same rfl)
  · refine Ev.ifn hn ?_
    rw [wu_id (n := n) (by omega) (by omega)]
    have M := ref07_Make_c false (a := [n]) (b := [1]) ⟨Ws_one (by unfold U; omega), by simp⟩ w1 (by simp) (by decide) (by rw [nv_one]; omega)
    rw [nv_one, nv_one, show sgI false n = n by unfold sgI; simp] at M
    exact Ev.bind M (Ev.same rfl)
end Go.Proofs.Ytjocbnjpjihpnaa.M
end
section
namespace Go.Proofs.Ytjocbnjpjihpnaa.M
open Go.RowKit Go.Proofs.YtjocbnjpjihpnaaW.PrintWords Go.Proofs.YtjocbnjpjihpnaaW.PrintLast Go.Proofs.YtjocbnjpjihpnaaW.PrintMore
set_option linter.unusedVariables false

/-! ### Sums -/
theorem cell_neg {a b G : Int} (hG : 0 < G) (hq : a / G = b / G) (hz : a % G = 0 ↔ b % G = 0) : (-a) / G = (-b) / G ∧ ((-a) % G = 0 ↔ (-b) % G = 0) := by
  have key : ∀ x : Int, (x % G = 0 → (-x) / G = -(x / G) ∧ (-x) % G = 0) ∧ (x % G ≠ 0 → (-x) / G = -(x / G) - 1 ∧ (-x) % G = G - x % G) := by
    intro x
    have h1 := Int.mul_ediv_add_emod x G
    have h2 := Int.emod_nonneg x (show G ≠ 0 by omega)
    have h3 := Int.emod_lt_of_pos x hG
    constructor
    · intro h
      exact (Int.ediv_emod_unique hG).2 ⟨by rw [Int.mul_neg]; omega, by omega, by omega⟩
    · intro h
      exact (Int.ediv_emod_unique hG).2 ⟨by rw [Int.mul_sub, Int.mul_neg, Int.mul_one]; omega, by omega, by omega⟩
  have ka := key a
  have kb := key b
  have b3 := Int.emod_lt_of_pos b hG
  have a3 := Int.emod_lt_of_pos a hG
  by_cases h : a % G = 0
  · have h' := hz.1 h
    exact ⟨by rw [(ka.1 h).1, (kb.1 h').1, hq], by simp [(ka.1 h).2, (kb.1 h').2]⟩
  · have h' := fun k => h (hz.2 k)
    refine ⟨by rw [(ka.2 h).1, (kb.2 h').1, hq], ?_⟩
    rw [(ka.2 h).2, (kb.2 h').2]
    omega
theorem cell_add {a b G : Int} (K : Int) (hq : a / G = b / G) (hz : a % G = 0 ↔ b % G = 0) (hG : 0 < G) : (G * K + a) / G = (G * K + b) / G ∧ ((G * K + a) % G = 0 ↔ (G * K + b) % G = 0) := by
  rw [Int.add_comm (G * K), Int.add_comm (G * K), Int.add_mul_ediv_left _ _ (by omega), Int.add_mul_ediv_left _ _ (by omega), Int.add_mul_emod_self_left, Int.add_mul_emod_self_left]
  exact ⟨by rw [hq], hz⟩
theorem st_le {n : Int} (h0 : 0 ≤ n) (s : Nat) : st n s ≤ n / 2 ^ s + 1 := by
  unfold st
  split <;> omega
/-- A sum with the lesser number moved down, its lost bits marked. -/
theorem sum_st {m e n f : Int} (hm0 : 0 ≤ m) (hm : m < 9007199254740992) (hn0 : 0 ≤ n) (hn : n < 9007199254740992) (hef : f ≤ e) (hf : -1074 ≤ f) (hw : e = -1074 ∨ 4503599627370496 ≤ m) {up s : Nat} (hup : (up : Int) = min (e - f) 10) (hs : e - up - f = s) :
    Rd (m * 2 ^ up + st n s) (e - up) = Rd (m * 2 ^ (e - f).toNat + n) f ∧
    (m * 2 ^ up > st n s ↔ m * 2 ^ (e - f).toNat > n) ∧ (m * 2 ^ up < st n s ↔ m * 2 ^ (e - f).toNat < n) ∧
    (m * 2 ^ up > st n s → Rd (m * 2 ^ up - st n s) (e - up) = Rd (m * 2 ^ (e - f).toNat - n) f) ∧
    (m * 2 ^ up < st n s → Rd (st n s - m * 2 ^ up) (e - up) = Rd (n - m * 2 ^ (e - f).toNat) f) := by
  rcases (show s = 0 ∨ 0 < s by omega) with rfl | hs0
  · rw [st_zero, show (e - f).toNat = up by omega, show e - (up : Int) = f by omega]
    exact ⟨rfl, Iff.rfl, Iff.rfl, fun _ => rfl, fun _ => rfl⟩
  · obtain rfl : up = 10 := by omega
    have hm2 : 4503599627370496 ≤ m := by omega
    have hG : (0 : Int) < 2 ^ s := pow_pos s
    have hG2 : (0 : Int) < 2 ^ (s + 1) := pow_pos _
    have hge : (2 : Int) ≤ 2 ^ s := by
      have := pow_le_pow (a := 1) (b := s) (by omega)
      omega
    have eX : m * 2 ^ (e - f).toNat = 2 ^ (s + 1) * (m * 512) := by
      rw [show (e - f).toNat = s + 1 + 9 by omega, Int.pow_add]
      generalize (2 : Int) ^ (s + 1) = G
      rw [show (2 : Int) ^ 9 = 512 from rfl]
      grind
    have hY := st_le hn0 s
    have hY0 := st_nonneg hn0 s
    have hYn : n / 2 ^ s ≤ n := Int.ediv_le_self _ hn0
    have hc := st_cell n s
    have hcn := cell_neg hG2 hc.1 hc.2
    have ca := cell_add (m * 512) hc.1 hc.2 hG2
    have cn := cell_add (m * 512) hcn.1 hcn.2 hG2
    have hX : 4503599627370496 * 512 * 2 ^ (s + 1) ≤ 2 ^ (s + 1) * (m * 512) := by
      rw [Int.mul_comm]
      exact Int.mul_le_mul_of_nonneg_left (by omega) (by omega)
    have ee : e - ((10 : Nat) : Int) = f + s := by omega
    have e10 : m * 2 ^ 10 = m * 1024 := rfl
    rw [ee, eX, e10]
    have p1 : (2 : Int) ^ (s + 1) = 2 ^ s * 2 := Int.pow_succ ..
    have s1 : (m * 1024 + st n s) * 2 ^ s = 2 ^ (s + 1) * (m * 512) + st n s * 2 ^ s := by rw [p1]; grind
    have s2 : (m * 1024 - st n s) * 2 ^ s = 2 ^ (s + 1) * (m * 512) + -(st n s * 2 ^ s) := by rw [p1]; grind
    have u1 : ∀ M : Int, 4503599627370496 * 511 * 2 ^ (s + 1) ≤ M → f + ((s + 1 : Nat) : Int) + 1 ≤ un M f := by
      intro M h
      have : (2 : Int) ^ (60 + (s + 1)) ≤ M := by
        rw [Int.pow_add]
        have : (2 : Int) ^ 60 * 2 ^ (s + 1) ≤ 4503599627370496 * 511 * 2 ^ (s + 1) := Int.mul_le_mul_of_nonneg_right (by decide) (by omega)
        omega
      have := bl_ge' this
      unfold un
      omega
    have hbig : (4503599627370496 : Int) * 2 ≤ 4503599627370496 * 2 ^ (s + 1) := by omega
    have gt1 : m * 1024 > st n s := by omega
    have gt2 : 2 ^ (s + 1) * (m * 512) > n := by omega
    refine ⟨?_, by omega, by omega, fun _ => ?_, fun h => by omega⟩
    · rw [← Rd_scale (show 0 < m * 1024 + st n s by omega) (f + s) s, show f + (s : Int) - s = f by omega, s1]
      exact (Rd_cell (g := s + 1) (by omega) (by have := Int.mul_nonneg hY0 (Int.le_of_lt hG); omega) ca.1.symm ca.2.symm (u1 _ (by omega))).symm
    · rw [← Rd_scale (show 0 < m * 1024 - st n s by omega) (f + s) s, show f + (s : Int) - s = f by omega, s2, show 2 ^ (s + 1) * (m * 512) - n = 2 ^ (s + 1) * (m * 512) + -n by omega]
      have pos : 0 < 2 ^ (s + 1) * (m * 512) + -(st n s * 2 ^ s) := by rw [← s2]; exact Int.mul_pos (by omega) hG
      exact (Rd_cell (g := s + 1) (by omega) pos cn.1.symm cn.2.symm (u1 _ (by omega))).symm
/-- The sum of two finite doubles. -/
def fsF (a b : Int) : Int :=
  if fs a = fs b then sgn (fs a) (Rd (pm a * 2 ^ (pe a - min (pe a) (pe b)).toNat + pm b * 2 ^ (pe b - min (pe a) (pe b)).toNat) (min (pe a) (pe b)))
  else if pm a * 2 ^ (pe a - min (pe a) (pe b)).toNat = pm b * 2 ^ (pe b - min (pe a) (pe b)).toNat then 0
  else if pm a * 2 ^ (pe a - min (pe a) (pe b)).toNat > pm b * 2 ^ (pe b - min (pe a) (pe b)).toNat then sgn (fs a) (Rd (pm a * 2 ^ (pe a - min (pe a) (pe b)).toNat - pm b * 2 ^ (pe b - min (pe a) (pe b)).toNat) (min (pe a) (pe b)))
  else sgn (fs b) (Rd (pm b * 2 ^ (pe b - min (pe a) (pe b)).toNat - pm a * 2 ^ (pe a - min (pe a) (pe b)).toNat) (min (pe a) (pe b)))
theorem fsF_comm (a b : Int) : fsF a b = fsF b a := by
  unfold fsF
  rw [show min (pe b) (pe a) = min (pe a) (pe b) by omega]
  generalize pm a * 2 ^ (pe a - min (pe a) (pe b)).toNat = X
  generalize pm b * 2 ^ (pe b - min (pe a) (pe b)).toNat = Y
  by_cases h : fs a = fs b
  · rw [if_pos h, if_pos h.symm, h, Int.add_comm]
  · have h' : ¬ fs b = fs a := fun k => h k.symm
    rw [if_neg h, if_neg h']
    rcases Int.lt_trichotomy X Y with h1 | h1 | h1
    · rw [if_neg (show ¬ X = Y by omega), if_neg (show ¬ X > Y by omega), if_neg (show ¬ Y = X by omega), if_pos (show Y > X from h1)]
    · rw [if_pos h1, if_pos h1.symm]
    · rw [if_neg (show ¬ X = Y by omega), if_pos (show X > Y from h1), if_neg (show ¬ Y = X by omega), if_neg (show ¬ Y > X by omega)]
def fadd (a b : Int) : Int := if fk a = 4 ∨ fk b = 4 then NAN else if fk a = 3 ∧ fk b = 3 ∧ a ≠ b then NAN else if fk a = 3 then a else if fk b = 3 then b else fsF a b
/-! ### The opposite -/
def fl (b : Int) : Int := if fk b = 4 then NAN else (b + 9223372036854775808) % 18446744073709551616
def cl (b : Int) : Int := if fk b = 4 then NAN else b
theorem fl_U (b : Int) : U (fl b) := by unfold fl NAN U; split <;> omega
theorem sgn_parts {x : Int} (h0 : 0 ≤ x) (h1 : x < 9223372036854775808) (neg : Bool) : U (sgn neg x) ∧ fs (sgn neg x) = neg ∧ fx (sgn neg x) = x / 4503599627370496 ∧ fr (sgn neg x) = x % 4503599627370496 := by
  unfold sgn U fs fx fr
  cases neg
  · simp only [Bool.false_eq_true, if_false]
    exact ⟨by omega, decide_eq_false (by omega), by omega, by first | trivial | omega⟩
  · simp only [if_true]
    exact ⟨by omega, decide_eq_true (by omega), by omega, by omega⟩
theorem fsF_U (a b : Int) : U (fsF a b) := by
  have key : ∀ (n : Bool) (m e : Int), U (sgn n (Rd m e)) := fun n m e => (sgn_parts (Rd_range m e).1 (by have := (Rd_range m e).2; unfold INF at this; omega) n).1
  unfold fsF
  split
  · exact key ..
  · split
    · unfold U; omega
    · split
      · exact key ..
      · exact key ..
theorem fadd_U {a b : Int} (ha : U a) (hb : U b) : U (fadd a b) := by
  have : U NAN := by unfold U NAN; omega
  unfold fadd
  split
  · exact this
  · split
    · exact this
    · split
      · exact ha
      · split
        · exact hb
        · exact fsF_U a b
def fsub (a b : Int) : Int := fadd a (fl b)

/-! ### Products, quotients -/
def fmul (a b : Int) : Int := if fk a = 4 ∨ fk b = 4 ∨ (fk a = 3 ∧ fk b = 0) ∨ (fk a = 0 ∧ fk b = 3) then NAN else if fk a = 3 ∨ fk b = 3 then sgn (fs a != fs b) INF else sgn (fs a != fs b) (Rd (pm a * pm b) (pe a + pe b))
theorem sgnRd_U (n : Bool) (m e : Int) : U (sgn n (Rd m e)) := (sgn_parts (Rd_range m e).1 (by have := (Rd_range m e).2; unfold INF at this; omega) n).1
theorem sgnINF_U (n : Bool) : U (sgn n INF) := (sgn_parts (x := INF) (by decide) (by decide) n).1
theorem NAN_U : U NAN := by unfold U NAN; omega
theorem fmul_U (a b : Int) : U (fmul a b) := by
  unfold fmul
  split
  · exact NAN_U
  · split
    · exact sgnINF_U _
    · exact sgnRd_U ..
/-- The quotient of two numbers but 0, as a double without its sign. -/
def qd (m e n f : Int) : Int :=
  if m * 2 ^ (63 - bl m).toNat * 18446744073709551616 % (n * 2 ^ (64 - bl n).toNat) = 0 then Rd (m * 2 ^ (63 - bl m).toNat * 18446744073709551616 / (n * 2 ^ (64 - bl n).toNat)) (e - f + bl m - bl n - 63)
  else Rd (2 * (m * 2 ^ (63 - bl m).toNat * 18446744073709551616 / (n * 2 ^ (64 - bl n).toNat)) + 1) (e - f + bl m - bl n - 64)
theorem qd_range (m e n f : Int) : 0 ≤ qd m e n f ∧ qd m e n f ≤ INF := by unfold qd; split <;> exact Rd_range ..
def fdiv (a b : Int) : Int := if fk a = 4 ∨ fk b = 4 ∨ (fk a = 3 ∧ fk b = 3) ∨ (fk a = 0 ∧ fk b = 0) then NAN else if fk a = 3 ∨ fk b = 0 then sgn (fs a != fs b) INF else if fk a = 0 ∨ fk b = 3 then sgn (fs a != fs b) 0 else sgn (fs a != fs b) (qd (pm a) (pe a) (pm b) (pe b))
theorem fdiv_U (a b : Int) : U (fdiv a b) := by
  unfold fdiv
  split
  · exact NAN_U
  · split
    · exact sgnINF_U _
    · split
      · exact (sgn_parts (x := 0) (by decide) (by decide) _).1
      · exact (sgn_parts (qd_range ..).1 (by have := (qd_range (pm a) (pe a) (pm b) (pe b)).2; unfold INF at this; omega) _).1
/-- The quotient's word with its lowest bit set if something is left. -/
theorem qd_code {q E : Int} (h : 4611686018427387904 ≤ q) : Rd (q / 2 * 2 + 1) E = Rd (2 * q + 1) (E - 1) := by
  rw [← Rd_scale (show 0 < q / 2 * 2 + 1 by omega) E 1, Int.pow_one, show E - ((1 : Nat) : Int) = E - 1 from rfl]
  refine Rd_cell (g := 2) (by omega) (by omega) (by omega) (by omega) ?_
  have := bl_ge' (x := (q / 2 * 2 + 1) * 2) (n := 55) (by omega)
  unfold un
  omega
end Go.Proofs.Ytjocbnjpjihpnaa.M
end
section
namespace Go.Proofs.Ytjocbnjpjihpnaa.M
open Go.RowKit Go.Proofs.Ytjocbnjpjihpnaa.P Go.Proofs.YtjocbnjpjihpnaaW.PrintWords Go.Proofs.YtjocbnjpjihpnaaW.PrintLast Go.Proofs.YtjocbnjpjihpnaaW.PrintMore
set_option linter.unusedVariables false

theorem and_top {x : Int} (h : U x) : Go.bits .and .u64 x 9223372036854775808 = x / 9223372036854775808 * 9223372036854775808 := by
  obtain ⟨h0, h1⟩ := h
  obtain ⟨a, rfl⟩ := Int.eq_ofNat_of_zero_le h0
  have e := and_nat a (2 ^ 63) (by omega) (by decide)
  rw [show (9223372036854775808 : Int) = ((2 ^ 63 : Nat) : Int) from rfl, e]
  rcases Nat.lt_or_ge a (2 ^ 63) with h2 | h2
  · have : a &&& 2 ^ 63 = 0 := by
      refine Nat.eq_of_testBit_eq fun i => ?_
      rw [Nat.testBit_and, Nat.testBit_two_pow, Nat.zero_testBit]
      by_cases hi : 63 = i
      · subst hi
        rw [Nat.testBit_lt_two_pow h2]
        simp
      · simp [hi]
    rw [this]
    omega
  · obtain ⟨b, rfl⟩ : ∃ b, a = b + 2 ^ 63 := ⟨a - 2 ^ 63, by omega⟩
    have e2 := Nat.two_pow_add_eq_or_of_lt (show b < 2 ^ 63 by omega) 1
    rw [Nat.mul_one] at e2
    have : (b + 2 ^ 63) &&& 2 ^ 63 = 2 ^ 63 := by
      rw [Nat.add_comm, e2]
      refine Nat.eq_of_testBit_eq fun i => ?_
      rw [Nat.testBit_and, Nat.testBit_or, Nat.testBit_two_pow]
      by_cases hi : 63 = i <;> simp [hi]
    rw [this]
    omega
theorem or_top {x : Int} (h0 : 0 ≤ x) (h1 : x < 9223372036854775808) : Go.bits .or .u64 x 9223372036854775808 = x + 9223372036854775808 := by
  rw [or_comm _ _ h0 (by omega) (by omega) (by omega), or_join 63 _ _ (by omega) (by omega) (by omega) h0 (by omega) (by omega)]
  omega
theorem xor_low (a : Nat) (h : a < 2 ^ 63) : a ^^^ 2 ^ 63 = a + 2 ^ 63 := by
  have e := Nat.two_pow_add_eq_or_of_lt h 1
  rw [Nat.mul_one] at e
  rw [Nat.add_comm, e]
  refine Nat.eq_of_testBit_eq fun i => ?_
  rw [Nat.testBit_xor, Nat.testBit_or, Nat.testBit_two_pow]
  by_cases hi : 63 = i
  · subst hi
    rw [Nat.testBit_lt_two_pow h]
    simp
  · simp [hi]
theorem xor_top {x : Int} (h : U x) : Go.bits .xor .u64 x 9223372036854775808 = (x + 9223372036854775808) % 18446744073709551616 := by
  obtain ⟨h0, h1⟩ := h
  obtain ⟨a, rfl⟩ := Int.eq_ofNat_of_zero_le h0
  have ha : a < 2 ^ 64 := by omega
  have e1 : Go.bits .xor .u64 (a : Int) 9223372036854775808 = IntKind.u64.wrap ((a ^^^ 2 ^ 63 : Nat) : Int) := by
    rw [show (9223372036854775808 : Int) = ((2 ^ 63 : Nat) : Int) from rfl]
    simp only [Go.bits, BitVec.ofInt_natCast, BitVec.toNat_xor, BitVec.toNat_ofNat]
    rw [show IntKind.bits .u64 = 64 from rfl, Nat.mod_eq_of_lt ha, Nat.mod_eq_of_lt (show 2 ^ 63 < 2 ^ 64 by decide)]
  rw [e1, wu]
  rcases Nat.lt_or_ge a (2 ^ 63) with h2 | h2
  · rw [xor_low a h2]
    omega
  · obtain ⟨b, rfl⟩ : ∃ b, a = b + 2 ^ 63 := ⟨a - 2 ^ 63, by omega⟩
    rw [← xor_low b (by omega), Nat.xor_assoc, Nat.xor_self, Nat.xor_zero, xor_low b (by omega)]
    omega
theorem fbits_exponent_c {b : Int} (h : U b) : fbits_exponent.f b = some (fx b) := by
  unfold U at h
  unfold fbits_exponent.f fx
  rw [and11 _ (by omega) (by omega), w64_id (by omega) (by omega)]
theorem fbits_Kind_c {b : Int} (h : U b) : fbits_Kind.f b = some (fk b) := by
  unfold fbits_Kind.f
  rw [fbits_exponent_c h, and52 b h.1 h.2]
  show (if fx b = 2047 then (if fr b = 0 then some 3 else some 4) else if fx b = 0 then (if fr b = 0 then some 0 else some 1) else some 2) = some (fk b)
  unfold fk
  split
  · split <;> rfl
  · split
    · split <;> rfl
    · rfl
theorem fbits_Neg_c {b : Int} (h : U b) : fbits_Neg.f b = some (fs b) := by
  unfold fbits_Neg.f
  rw [and_top h]
  unfold U at h
  unfold fs
  congr 1
  by_cases hb : b ≥ 9223372036854775808
  · rw [decide_eq_true hb, bne_iff_ne]; omega
  · rw [decide_eq_false hb, bne_eq_false_iff_eq]; omega
theorem fbits_Parts_c {b : Int} (h : U b) : Ev (fun k => fbits_Parts.f k b) (if fx b = 2047 then (false, 0, 0, false) else (fs b, pm b, pe b, true)) := by
  have hx := @fx_range b
  have hr := @fr_range b
  have hk := fk_eq b
  have e52 : Go.bits .and .u64 b 4503599627370495 = fr b := and52 b h.1 h.2
  refine Ev.bindc (fbits_Kind_c h) ?_
  rw [e52]
  have key : ∀ t : Bool, (t = true ↔ fx b = 2047) → Ev (fun k => fbits_Parts.j0 k b (fr b) (fk b) t) (if fx b = 2047 then (false, 0, 0, false) else (fs b, pm b, pe b, true)) := by
    intro t ht
    refine Ev.eqv (fun k => fbits_Parts.j0.eq_1 ..) ?_
    by_cases hc : fx b = 2047
    · rw [if_pos hc]
      exact Ev.ifp (ht.2 hc) (Ev.same rfl)
    · rw [if_neg hc]
      refine Ev.ifn (fun k => hc (ht.1 k)) ?_
      have hk2 : fk b = 2 ↔ fx b ≠ 0 := by
        unfold fk
        rw [if_neg hc]
        by_cases h0 : fx b = 0
        · rw [if_pos h0]
          split <;> omega
        · rw [if_neg h0]; omega
      unfold pm pe
      by_cases h0 : fx b = 0
      · rw [if_pos h0, if_pos h0]
        exact Ev.ifn (by omega) (Ev.bindc (fbits_Neg_c h) (Ev.same rfl))
      · rw [if_neg h0, if_neg h0]
        refine Ev.ifp (by omega) (Ev.bindc (fbits_Neg_c h) (Ev.bindc (fbits_exponent_c h) (Ev.same ?_)))
        rw [w64_id (by omega) (by omega), or_comm _ _ (by omega) (by omega) (by omega) (by omega), or_join 52 _ _ (by omega) (by omega) (by omega) (by omega) (by omega) (by omega), Int.add_comm]
  by_cases h3 : fk b = 3
  · exact Ev.ifp h3 (key _ (by rw [h3]; simp; omega))
  · refine Ev.ifn h3 (key _ ?_)
    rw [beq_iff_eq]
    omega
theorem fbits_signed_c {x : Int} (neg : Bool) (h0 : 0 ≤ x) (h1 : x < 9223372036854775808) : fbits_signed.f neg x = some (sgn neg x) := by
  unfold fbits_signed.f sgn
  rw [or_top h0 h1]
  cases neg <;> rfl
theorem fbits_Inf_c (neg : Bool) : fbits_Inf.f neg = some (sgn neg INF) := by
  unfold fbits_Inf.f
  rw [fbits_signed_c neg (by decide) (by decide)]
  rfl
theorem fbits_Nan_c : fbits_Nan.f = some NAN := rfl
theorem fbits_Clean_c {b : Int} (h : U b) : fbits_Clean.f b = some (cl b) := by
  unfold fbits_Clean.f cl
  rw [fbits_Kind_c h]
  show (if fk b = 4 then _ else _) = _
  split <;> rfl
theorem fbits_Flip_c {b : Int} (h : U b) : fbits_Flip.f b = some (fl b) := by
  unfold fbits_Flip.f fl
  rw [fbits_Kind_c h, xor_top h]
  show (if fk b = 4 then _ else _) = _
  split <;> rfl

/-! ### Make -/
theorem far_no {m u e : Int} (h0 : 0 < m) (h1 : m < 18446744073709551616) (h : 64 ≤ u - e) : m * 2 ^ (e - u).toNat % 2 ^ (u - e).toNat ≠ 0 := by
  have := pow_le_pow (a := 64) (b := (u - e).toNat) (by omega)
  rw [show (e - u).toNat = 0 by omega, Int.pow_zero, Int.mul_one, Int.emod_eq_of_lt (by omega) (by omega)]
  omega
theorem un_text {m e : Int} (hm : U m) (he : -5000 ≤ e) (he' : e ≤ 5000) : mx (wrap64 ((wrap64 (e + bl m)) - 53)) (-1074) = un m e := by
  have h1 := bl_64 hm.2
  have h2 := bl_nonneg m
  rw [w64_id (n := e + bl m) (by omega) (by omega), w64_id (by omega) (by omega)]
  unfold mx un
  generalize bl m = n at *
  split <;> omega
theorem fbits_Make_j2 {w u : Int} (neg : Bool) (h0 : 0 ≤ w) (h1 : w < 9007199254740992) (hu0 : -1074 ≤ u) (hu1 : u ≤ 971) (hw : u = -1074 ∨ 4503599627370496 ≤ w) :
    Ev (fun k => fbits_Make.j2 k neg w u) (sgn neg ((u + 1074) * 4503599627370496 + w), true) := by
  refine Ev.eqv (fun k => fbits_Make.j2.eq_1 ..) ?_
  by_cases h : w < 4503599627370496
  · refine Ev.ifp h (Ev.bindc (fbits_signed_c neg h0 (by omega)) (Ev.same ?_))
    rw [show (u + 1074) * 4503599627370496 + w = w by omega]
  · refine Ev.ifn h ?_
    rw [and52 w h0 (by omega), w64_id (by omega) (by omega), wu_id (n := u + 1075) (by omega) (by omega), wu_id (by omega) (by omega), or_join 52 _ _ (by omega) (by omega) (by omega) (by omega) (by omega) (by omega)]
    rw [show (u + 1075) * 4503599627370496 + w % 4503599627370496 = (u + 1074) * 4503599627370496 + w by omega]
    exact Ev.bindc (fbits_signed_c neg (by omega) (by omega)) (Ev.same rfl)
theorem fbits_Make_c {m e : Int} (neg : Bool) (hm : U m) (he0 : -9223372036854775808 ≤ e) (he1 : e ≤ 9223372036854775807) : Ev (fun k => fbits_Make.f k neg m e) (Mk neg m e) := by
  obtain ⟨hm0, hm1⟩ := id hm
  have hu : un m e = max (bl m + e - 53) (-1074) := rfl
  by_cases hz : m = 0
  · refine Ev.ifp hz (Ev.bindc (fbits_signed_c neg (by omega) (by omega)) (Ev.same ?_))
    rw [hz, Mk_zero]
  · have hp : 0 < m := by omega
    have b1 := bl_pos hp
    have b2 := bl_64 hm1
    refine Ev.ifn hz ?_
    by_cases h1 : e > 2000
    · refine Ev.ifp h1 (Ev.eqv (fun k => fbits_Make.j0.eq_1 ..) (Ev.ifp rfl (Ev.same ?_)))
      rw [Mk_no neg hz (.inl (by omega))]
    · refine Ev.ifn h1 (Ev.eqv (fun k => fbits_Make.j0.eq_1 ..) ?_)
      by_cases h2 : e < -2000
      · refine Ev.ifp (decide_eq_true h2) (Ev.same ?_)
        rw [Mk_no neg hz (.inr (far_no hp hm1 (by omega)))]
      · refine Ev.ifn (by rw [decide_eq_false h2]; decide) (Ev.bind (limb_Len_c hm) ?_)
        have hq := un_q (e := e) hp
        rw [un_text hm (by omega) (by omega), w64_id (by omega) (by omega)]
        by_cases h3 : un m e > 971
        · refine Ev.ifp h3 (Ev.eqv (fun k => fbits_Make.j1.eq_1 ..) (Ev.ifp rfl (Ev.same ?_)))
          rw [Mk_no neg hz (.inl h3)]
        · refine Ev.ifn h3 (Ev.eqv (fun k => fbits_Make.j1.eq_1 ..) ?_)
          by_cases h4 : un m e - e ≥ 64
          · refine Ev.ifp (decide_eq_true h4) (Ev.same ?_)
            rw [Mk_no neg hz (.inr (far_no hp hm1 (by omega)))]
          · refine Ev.ifn (by rw [decide_eq_false h4]; decide) ?_
            by_cases h5 : un m e - e > 0
            · refine Ev.ifp h5 (Ev.ifp (by omega) ?_)
              obtain ⟨s, hs⟩ : ∃ s : Nat, un m e - e = s := ⟨(un m e - e).toNat, by omega⟩
              have hps := pow_pos s
              have hd := Int.mul_ediv_add_emod m (2 ^ s)
              have hr := Int.emod_nonneg m (show (2 : Int) ^ s ≠ 0 by omega)
              have hd0 : 0 ≤ m / 2 ^ s := Int.ediv_nonneg hm0 (by omega)
              have hd1 : 0 ≤ m / 2 ^ s * 2 ^ s := Int.mul_nonneg hd0 (by omega)
              have e0 : m * 2 ^ (e - un m e).toNat = m := by rw [show (e - un m e).toNat = 0 by omega, Int.pow_zero, Int.mul_one]
              rw [Int.mul_comm] at hd
              rw [e0] at hq
              rw [hs] at hq ⊢
              rw [shr_u _ _ (by omega), shl_u _ _ (by omega)]
              rw [Int.toNat_natCast] at hq ⊢
              rw [Int.emod_eq_of_lt hd1 (by omega)]
              by_cases h6 : m / 2 ^ s * 2 ^ s = m
              · refine Ev.ifp h6 ((fbits_Make_j2 neg hq.1 hq.2.1 (by omega) (by omega) hq.2.2).eqr ?_)
                have h7 : m % 2 ^ s = 0 := by omega
                rw [Mk_yes neg hz (by omega) (by rw [e0, hs, Int.toNat_natCast]; exact h7), Rd_exact hp (by omega) (by rw [e0, hs, Int.toNat_natCast]; exact h7), e0, hs, Int.toNat_natCast]
              · refine Ev.ifn h6 (Ev.same ?_)
                rw [Mk_no neg hz (.inr (by rw [e0, hs, Int.toNat_natCast]; omega))]
            · refine Ev.ifn h5 ?_
              rw [w64_id (by omega) (by omega)]
              refine Ev.ifp (by omega) ?_
              obtain ⟨t, ht⟩ : ∃ t : Nat, -(un m e - e) = t := ⟨(-(un m e - e)).toNat, by omega⟩
              have e1 : (e - un m e).toNat = t := by omega
              have e2 : (un m e - e).toNat = 0 := by omega
              rw [e1, e2, Int.pow_zero, Int.ediv_one] at hq
              rw [ht, shl_u _ _ (by omega), Int.toNat_natCast, Int.emod_eq_of_lt hq.1 (by omega)]
              refine (fbits_Make_j2 neg hq.1 hq.2.1 (by omega) (by omega) hq.2.2).eqr ?_
              rw [Mk_yes neg hz (by omega) (by rw [e2, Int.pow_zero, Int.emod_one]), Rd_exact hp (by omega) (by rw [e2, Int.pow_zero, Int.emod_one]), e1, e2, Int.pow_zero, Int.ediv_one]

/-! ### The reference -/
theorem ref09_Field_c {b : Int} (h : U b) : gradineref09_Field.f b = some (fx b) := fbits_exponent_c h
theorem ref09_Rest_c {b : Int} (h : U b) : gradineref09_Rest.f b = some (fr b) := by
  unfold gradineref09_Rest.f
  rw [and52 b h.1 h.2]
  rfl
theorem ref09_Kind_c {b : Int} (h : U b) : gradineref09_Kind.f b = some (fk b) := by
  have hx := @fx_range b
  have hr := @fr_range b
  unfold gradineref09_Kind.f
  rw [ref09_Field_c h, ref09_Rest_c h]
  show (if fx b = 2047 then (if fr b = 0 then some 3 else some 4) else if fx b > 0 then some 2 else if fr b > 0 then some 1 else some 0) = some (fk b)
  unfold fk
  by_cases h1 : fx b = 2047
  · rw [if_pos h1, if_pos h1]
    split <;> rfl
  · rw [if_neg h1, if_neg h1]
    by_cases h2 : fx b = 0
    · rw [if_neg (show ¬ fx b > 0 by omega), if_pos h2]
      by_cases h3 : fr b = 0
      · rw [if_neg (show ¬ fr b > 0 by omega), if_pos h3]
      · rw [if_pos (show fr b > 0 by omega), if_neg h3]
    · rw [if_pos (show fx b > 0 by omega), if_neg h2]
theorem ref09_Neg_c {b : Int} (h : U b) : gradineref09_Neg.f b = some (fs b) := by
  unfold U at h
  unfold gradineref09_Neg.f fs
  congr 1
  by_cases hb : b ≥ 9223372036854775808
  · rw [decide_eq_true hb, beq_iff_eq]; omega
  · rw [decide_eq_false hb, beq_eq_false_iff_ne]; omega
theorem ref09_Finite_c {b : Int} (h : U b) : gradineref09_Finite.f b = some (decide (fx b ≠ 2047)) := by
  have hx := @fx_range b
  unfold gradineref09_Finite.f
  rw [ref09_Field_c h]
  show some (decide (fx b < 2047)) = _
  congr 1
  by_cases h1 : fx b = 2047
  · rw [decide_eq_false (by omega), decide_eq_false (by omega)]
  · rw [decide_eq_true (by omega), decide_eq_true (by omega)]
theorem ref09_Parts_c {b : Int} (h : U b) : gradineref09_Parts.f b = some (pm b, pe b) := by
  have hx := @fx_range b
  have hr := @fr_range b
  unfold gradineref09_Parts.f
  rw [ref09_Field_c h, ref09_Rest_c h]
  show (if fx b = 0 then some (fr b, -1074) else some (IntKind.u64.wrap (fr b + 4503599627370496), wrap64 (fx b - 1075))) = _
  unfold pm pe
  split
  · rfl
  · rw [wu_id (by omega) (by omega), w64_id (by omega) (by omega)]
theorem ref09_Signed_c {x : Int} (neg : Bool) (h0 : 0 ≤ x) (h1 : x < 9223372036854775808) : gradineref09_Signed.f neg x = some (sgn neg x) := by
  unfold gradineref09_Signed.f sgn
  rw [wu_id (by omega) (by omega)]
  cases neg <;> rfl
theorem ref09_Inf_c (neg : Bool) : gradineref09_Inf.f neg = some (sgn neg INF) := by
  unfold gradineref09_Inf.f
  rw [ref09_Signed_c neg (by decide) (by decide)]
  rfl
theorem ref09_Nan_c : gradineref09_Nan.f = some NAN := rfl
theorem ref09_Clean_c {b : Int} (h : U b) : gradineref09_Clean.f b = some (cl b) := by
  unfold gradineref09_Clean.f cl
  rw [ref09_Kind_c h]
  show (if fk b = 4 then _ else _) = _
  split <;> rfl
theorem ref09_Flip_c {b : Int} (h : U b) : gradineref09_Flip.f b = some (fl b) := by
  unfold gradineref09_Flip.f fl
  rw [ref09_Kind_c h, wu]
  show (if fk b = 4 then _ else _) = _
  split <;> rfl
theorem ref09_Make_l1 (neg : Bool) (n : Nat) : ∀ m e : Int, (e + 1074).toNat ≤ n → 0 < m → m < 9007199254740992 → -1074 ≤ e → e ≤ 3000 → Ev (fun k => gradineref09_Make.l1 k neg m e) (Mk neg m e) := by
  have fin : ∀ m e : Int, 0 < m → m < 9007199254740992 → -1074 ≤ e → e ≤ 3000 → (e = -1074 ∨ 4503599627370496 ≤ m) → Ev (fun k => gradineref09_Make.j4 k neg m e) (Mk neg m e) := by
    intro m e h0 h1 h2 h3 hw
    have hu : un m e = e := by
      rcases Int.lt_or_le m 4503599627370496 with h | h
      · have := bl_le_of (x := m) (n := 52) h
        unfold un
        omega
      · rw [un_bl (n := 52) h h1]
        omega
    refine Ev.step (fun k => gradineref09_Make.j4.eq_2 ..) ?_
    have e0 : m * 2 ^ (e - un m e).toNat % 2 ^ (un m e - e).toNat = 0 := by rw [hu, show (e - e).toNat = 0 by omega, Int.pow_zero, Int.emod_one]
    by_cases h : m < 4503599627370496
    · refine Ev.ifp h (Ev.bindc (ref09_Signed_c neg (by omega) (by omega)) (Ev.same ?_))
      rw [Mk_yes neg (by omega) (by omega) e0, (Rd_made h0 (by omega) h2 (by omega) hw).2.2.2]
      rw [show (e + 1074) * 4503599627370496 + m = m by omega]
    · refine Ev.ifn h ?_
      by_cases h4 : e > 971
      · refine Ev.ifp h4 (Ev.same ?_)
        rw [Mk_no neg (by omega) (.inl (by omega))]
      · refine Ev.ifn h4 ?_
        rw [w64_id (by omega) (by omega), wu_id (n := e + 1075) (by omega) (by omega), wu_id (n := (e + 1075) * 4503599627370496) (by omega) (by omega), wu_id (n := (e + 1075) * 4503599627370496 + m) (by omega) (by omega), wu_id (by omega) (by omega)]
        refine Ev.bindc (ref09_Signed_c neg (by omega) (by omega)) (Ev.same ?_)
        rw [Mk_yes neg (by omega) (by omega) e0, (Rd_made h0 (by omega) h2 (by omega) hw).2.2.2]
        rw [show (e + 1075) * 4503599627370496 + m - 4503599627370496 = (e + 1074) * 4503599627370496 + m by omega]
  induction n with
  | zero =>
    intro m e hn h0 h1 h2 h3
    refine Ev.step (fun k => gradineref09_Make.l1.eq_2 ..) ?_
    by_cases h : m < 4503599627370496
    · exact Ev.ifp h (Ev.ifn (by omega) (fin m e h0 h1 h2 h3 (.inl (by omega))))
    · exact Ev.ifn h (fin m e h0 h1 h2 h3 (.inr (by omega)))
  | succ n ih =>
    intro m e hn h0 h1 h2 h3
    refine Ev.step (fun k => gradineref09_Make.l1.eq_2 ..) ?_
    by_cases h : m < 4503599627370496
    · refine Ev.ifp h ?_
      by_cases h4 : e > -1074
      · refine Ev.ifp h4 ?_
        rw [wu_id (by omega) (by omega), w64_id (by omega) (by omega), ← Mk_scale neg h0 e]
        exact ih (m * 2) (e - 1) (by omega) (by omega) (by omega) (by omega) (by omega)
      · exact Ev.ifn h4 (fin m e h0 h1 h2 h3 (.inl (by omega)))
    · exact Ev.ifn h (fin m e h0 h1 h2 h3 (.inr (by omega)))
theorem ref09_Make_l0 (neg : Bool) (n : Nat) : ∀ m e : Int, m.toNat ≤ n → 0 < m → m < 18446744073709551616 → -1200 ≤ e → e + bl m ≤ 2000 → Ev (fun k => gradineref09_Make.l0 k neg m e) (Mk neg m e) := by
  induction n with
  | zero => intro m e hn h0; omega
  | succ n ih =>
    intro m e hn h0 h1 h2 h3
    have hb := bl_pos h0
    refine Ev.step (fun k => gradineref09_Make.l0.eq_2 ..) ?_
    rw [Int.tmod_eq_emod_of_nonneg (by omega), Int.tdiv_eq_ediv_of_nonneg (by omega)]
    by_cases ho : m % 2 = 0
    · refine Ev.ifp ho ?_
      have hb2 := bl_shr (x := m) (s := 1) (by omega)
      rw [Int.pow_one] at hb2
      rw [wu_id (by omega) (by omega), w64_id (by omega) (by omega)]
      have hs := Mk_scale neg (show 0 < m / 2 by omega) (e + 1)
      rw [show m / 2 * 2 = m by omega, show e + 1 - 1 = e by omega] at hs
      rw [hs]
      exact ih (m / 2) (e + 1) (by omega) (by omega) (by omega) (by omega) (by omega)
    · refine Ev.ifn ho ?_
      have hu : un m e = max (bl m + e - 53) (-1074) := rfl
      have odd : un m e > e → Mk neg m e = (0, false) := by
        intro h
        refine Mk_no neg (by omega) (.inr ?_)
        obtain ⟨j, hj⟩ : ∃ j : Nat, (un m e - e).toNat = j + 1 := ⟨(un m e - e).toNat - 1, by omega⟩
        rw [show (e - un m e).toNat = 0 by omega, hj, Int.pow_zero, Int.mul_one, Int.pow_succ, Int.mul_comm, mod_split _ (by omega)]
        have := Int.emod_nonneg (m / 2) (show (2 : Int) ^ j ≠ 0 by have := pow_pos j; omega)
        omega
      by_cases h4 : m ≥ 9007199254740992
      · refine Ev.ifp h4 (Ev.step (fun k => gradineref09_Make.j2.eq_2 ..) (Ev.ifp rfl (Ev.same ?_)))
        have := bl_ge' (x := m) (n := 53) (by omega)
        rw [odd (by omega)]
      · refine Ev.ifn h4 (Ev.step (fun k => gradineref09_Make.j2.eq_2 ..) ?_)
        by_cases h5 : e < -1074
        · refine Ev.ifp (decide_eq_true h5) (Ev.same ?_)
          rw [odd (by omega)]
        · refine Ev.ifn (by rw [decide_eq_false h5]; decide) ?_
          exact ref09_Make_l1 neg (e + 1074).toNat m e (Nat.le_refl _) h0 (by omega) (by omega) (by omega)
theorem ref09_Make_c {m e : Int} (neg : Bool) (hm : U m) : Ev (fun k => gradineref09_Make.f k neg m e) (Mk neg m e) := by
  obtain ⟨hm0, hm1⟩ := id hm
  have hu : un m e = max (bl m + e - 53) (-1074) := rfl
  by_cases hz : m = 0
  · refine Ev.ifp hz (Ev.bindc (ref09_Signed_c neg (by omega) (by omega)) (Ev.same ?_))
    rw [hz, Mk_zero]
  · have hp : 0 < m := by omega
    have b1 := bl_pos hp
    have b2 := bl_64 hm1
    refine Ev.ifn hz ?_
    by_cases h1 : e < -1200
    · refine Ev.ifp h1 (Ev.step (fun k => gradineref09_Make.j0.eq_2 ..) (Ev.ifp rfl (Ev.same ?_)))
      rw [Mk_no neg hz (.inr (far_no hp hm1 (by omega)))]
    · refine Ev.ifn h1 (Ev.step (fun k => gradineref09_Make.j0.eq_2 ..) ?_)
      by_cases h2 : e > 1200
      · refine Ev.ifp (decide_eq_true h2) (Ev.same ?_)
        rw [Mk_no neg hz (.inl (by omega))]
      · refine Ev.ifn (by rw [decide_eq_false h2]; decide) ?_
        exact ref09_Make_l0 neg m.toNat m e (Nat.le_refl _) hp hm1 (by omega) (by omega)
end Go.Proofs.Ytjocbnjpjihpnaa.M
end
section
namespace Go.Proofs.Ytjocbnjpjihpnaa.M
open Go.RowKit Go.Proofs.Ytjocbnjpjihpnaa.P Go.Proofs.YtjocbnjpjihpnaaW.PrintWords Go.Proofs.YtjocbnjpjihpnaaW.PrintLast Go.Proofs.YtjocbnjpjihpnaaW.PrintMore
set_option linter.unusedVariables false

theorem fround_made_c {w u : Int} (neg : Bool) (h0 : 0 ≤ w) (h1 : w ≤ 9007199254740992) (hu0 : -1074 ≤ u) (hu1 : u ≤ 971) (hw : u = -1074 ∨ 4503599627370496 ≤ w) :
    Ev (fun k => fround_made.f k neg w u) (sgn neg ((u + 1074) * 4503599627370496 + w)) := by
  refine Ev.bind (fbits_Make_c neg (m := w) (e := u) (by unfold U; omega) (by omega) (by omega)) ?_
  have hk := Mk_made (neg := neg) h0 h1 hu0 hu1 hw
  by_cases h : (Mk neg w u).2 = true
  · rw [if_pos h] at hk
    exact Ev.ifp h (Ev.same (congrArg some hk))
  · rw [if_neg h] at hk
    exact Ev.ifn h (Ev.bindc (fbits_Inf_c neg) (Ev.same (congrArg some hk)))
theorem fround_made_zero (neg : Bool) : Ev (fun k => fround_made.f k neg 0 0) (sgn neg 0) := by
  refine Ev.bind (fbits_Make_c neg (m := 0) (e := 0) (by unfold U; omega) (by omega) (by omega)) ?_
  rw [Mk_zero]
  exact Ev.ifp rfl (Ev.same rfl)
theorem fround_even_c {x : Int} (h0 : 0 ≤ x) (h1 : x < 9223372036854775808) (half more : Bool) : fround_even.f x half more = some (if half = true ∧ (more = true ∨ x % 2 = 1) then x + 1 else x) := by
  unfold fround_even.f
  rw [and1 x h0 (by omega), wu_id (by omega) (by omega)]
  cases half
  · simp
  · cases more
    · simp only [Bool.false_eq_true, if_true, if_false, false_or, true_and]
      split <;> rfl
    · simp
/-- The exponents that are gone through. -/
def ce (e : Int) : Int := mn (mx e (-1099511627776)) 1099511627776
theorem ce_range (e : Int) : -1099511627776 ≤ ce e ∧ ce e ≤ 1099511627776 := by
  unfold ce mn mx
  split <;> split <;> omega
theorem ce_id {e : Int} (h0 : -1099511627776 ≤ e) (h1 : e ≤ 1099511627776) : ce e = e := by
  unfold ce mn mx
  split <;> split <;> omega
theorem un_text2 {m e : Int} (hm : bl m ≤ 1000000) (he : -1099511627776 ≤ e) (he' : e ≤ 1099511627776) : mx (wrap64 ((wrap64 (bl m + e)) - 53)) (-1074) = un m e := by
  have h2 := bl_nonneg m
  rw [w64_id (n := bl m + e) (by omega) (by omega), w64_id (by omega) (by omega)]
  unfold mx un
  generalize bl m = n at *
  split <;> omega
theorem half_word {G H r : Int} (hG : 0 < G) (hGH : G * H = 9223372036854775808) (h0 : 0 ≤ r) (h1 : r < 2 * H) :
    (G * r / 9223372036854775808 == 1) = decide (r ≥ H) ∧ (r > H → (G * r * 2 % 18446744073709551616 != 0) = true) ∧ (r = H → (G * r * 2 % 18446744073709551616 != 0) = false) := by
  have e1 : G * (2 * H) = 18446744073709551616 := by rw [Int.mul_left_comm, hGH]; rfl
  have b0 : 0 ≤ G * r := Int.mul_nonneg (by omega) h0
  have b1 : G * r < 18446744073709551616 := by rw [← e1]; exact Int.mul_lt_mul_of_pos_left h1 hG
  rcases Int.lt_trichotomy r H with h | h | h
  · have : G * r < 9223372036854775808 := by rw [← hGH]; exact Int.mul_lt_mul_of_pos_left h hG
    refine ⟨?_, fun k => by omega, fun k => by omega⟩
    rw [decide_eq_false (by omega), beq_eq_false_iff_ne]
    omega
  · subst h
    refine ⟨?_, fun k => by omega, fun _ => ?_⟩
    · rw [decide_eq_true (by omega), beq_iff_eq]
      omega
    · rw [bne_eq_false_iff_eq]
      omega
  · have : 9223372036854775808 < G * r := by rw [← hGH]; exact Int.mul_lt_mul_of_pos_left h hG
    refine ⟨?_, fun _ => ?_, fun k => by omega⟩
    · rw [decide_eq_true (by omega), beq_iff_eq]
      omega
    · rw [bne_iff_ne]
      omega
theorem Rd_pos {m e : Int} (h : 0 < m) (hu : un m e ≤ 971) : Rd m e = (un m e + 1074) * 4503599627370496 + ru m e (un m e) := by
  unfold Rd
  rw [if_neg (by omega), if_neg (by omega)]
theorem Rd_over {m e : Int} (h : 0 < m) (hu : un m e > 971) : Rd m e = INF := by
  unfold Rd
  rw [if_neg (by omega), if_pos hu]
theorem fround_Word_c {m e : Int} (neg : Bool) (hm : U m) : Ev (fun k => fround_Word.f k neg m e) (sgn neg (Rd m (ce e))) := by
  obtain ⟨hm0, hm1⟩ := id hm
  have hE := ce_range e
  by_cases hz : m = 0
  · refine Ev.ifp hz (Ev.bind (fround_made_zero neg) (Ev.same ?_))
    rw [hz, Rd_zero]
  · have hp : 0 < m := by omega
    have b1 := bl_pos hp
    have b2 := bl_64 hm1
    refine Ev.ifn hz (Ev.bind (limb_Len_c hm) ?_)
    have eE : mn (mx e (-1099511627776)) 1099511627776 = ce e := rfl
    rw [eE]
    generalize ce e = E at *
    rw [un_text2 (by omega) (by omega) (by omega)]
    have hu : un m E = max (bl m + E - 53) (-1074) := rfl
    have hq := un_q (e := E) hp
    have hr := ru_units (e := E) hp
    by_cases h1 : un m E > 971
    · refine Ev.ifp h1 (Ev.bindc (fbits_Inf_c neg) (Ev.same ?_))
      rw [Rd_over hp h1]
    · refine Ev.ifn h1 ?_
      rw [w64_id (n := un m E - E) (by omega) (by omega), Rd_pos hp (by omega)]
      by_cases h2 : un m E - E ≤ 0
      · refine Ev.ifp h2 ?_
        rw [w64_id (by omega) (by omega)]
        refine Ev.ifp (by omega) ?_
        by_cases ht : -(un m E - E) ≤ 64
        · have e0 : ru m E (un m E) = m * 2 ^ (E - un m E).toNat := by
            unfold ru
            rw [show (un m E - E).toNat = 0 by omega, rnd_zero]
          rw [show (un m E - E).toNat = 0 by omega, Int.pow_zero, Int.ediv_one] at hq
          rw [e0] at hr ⊢
          rw [shl_u _ _ (by omega), show (-(un m E - E)).toNat = (E - un m E).toNat by omega, Int.emod_eq_of_lt hq.1 (by omega)]
          exact Ev.bind (fround_made_c neg hr.1 hr.2.1 (by omega) (by omega) hr.2.2) (Ev.same rfl)
        · exfalso
          omega
      · refine Ev.ifn h2 ?_
        by_cases h3 : un m E - E > 64
        · refine Ev.ifp h3 (Ev.bind (fround_made_zero neg) (Ev.same ?_))
          have hu2 : un m E = -1074 := by omega
          have e0 : ru m E (un m E) = 0 := by
            unfold ru
            rw [show (E - un m E).toNat = 0 by omega, Int.pow_zero, Int.mul_one]
            have := pow_le_pow (a := 65) (b := (un m E - E).toNat) (by omega)
            exact rnd_small hm0 (by omega)
          rw [e0, hu2]
          rfl
        · refine Ev.ifn h3 ?_
          obtain ⟨d, hd⟩ : ∃ d : Nat, un m E - E = ((d + 1 : Nat) : Int) := ⟨(un m E - E).toNat - 1, by omega⟩
          have hd63 : d + 1 ≤ 64 := by omega
          have e0 : ru m E (un m E) = rnd m (d + 1) := by
            unfold ru
            rw [show (E - un m E).toNat = 0 by omega, Int.pow_zero, Int.mul_one, hd, Int.toNat_natCast]
          rw [show (E - un m E).toNat = 0 by omega, Int.pow_zero, Int.mul_one, hd, Int.toNat_natCast] at hq
          rw [e0] at hr ⊢
          rw [hd, w64_id (by omega) (by omega), w64_id (n := ((d + 1 : Nat) : Int) - 1) (by omega) (by omega)]
          refine Ev.ifp (by omega) (Ev.ifp (by omega) ?_)
          have hH : (2 : Int) ^ (d + 1) = 2 * 2 ^ d := by rw [Int.pow_succ, Int.mul_comm]
          have hGH : (2 : Int) ^ (64 - (d + 1)) * 2 ^ d = 9223372036854775808 := by rw [← Int.pow_add, show 64 - (d + 1) + d = 63 by omega]; rfl
          rw [shr_u _ _ (by omega), shl_u _ _ (by omega), show (((d + 1 : Nat) : Int) - 1).toNat = d by omega, show (64 - ((d + 1 : Nat) : Int)).toNat = 64 - (d + 1) by omega, mod_up m hd63, wu]
          have e1 : m / 2 / 2 ^ d = m / 2 ^ (d + 1) := by rw [Int.ediv_ediv_of_nonneg (by omega), ← hH]
          rw [e1]
          have r0 := Int.emod_nonneg m (show (2 : Int) ^ (d + 1) ≠ 0 by have := pow_pos (d + 1); omega)
          have r1 := Int.emod_lt_of_pos m (pow_pos (d + 1))
          have hw := half_word (G := 2 ^ (64 - (d + 1))) (H := 2 ^ d) (r := m % 2 ^ (d + 1)) (pow_pos _) hGH r0 (by omega)
          rw [hw.1]
          have he := fround_even_c (x := m / 2 ^ (d + 1)) hq.1 (by omega) (decide (m % 2 ^ (d + 1) ≥ 2 ^ d)) (2 ^ (64 - (d + 1)) * (m % 2 ^ (d + 1)) * 2 % 18446744073709551616 != 0)
          have hv : (if decide (m % 2 ^ (d + 1) ≥ 2 ^ d) = true ∧ ((2 ^ (64 - (d + 1)) * (m % 2 ^ (d + 1)) * 2 % 18446744073709551616 != 0) = true ∨ m / 2 ^ (d + 1) % 2 = 1) then m / 2 ^ (d + 1) + 1 else m / 2 ^ (d + 1)) = rnd m (d + 1) := by
            unfold rnd
            rcases Int.lt_trichotomy (m % 2 ^ (d + 1)) (2 ^ d) with h | h | h
            · rw [if_neg (by simp; omega), if_neg (by omega)]
            · rw [hw.2.2 h]
              by_cases ho : m / 2 ^ (d + 1) % 2 = 1
              · rw [if_pos ⟨decide_eq_true (by omega), .inr ho⟩, if_pos (.inr ⟨by omega, ho⟩)]
              · rw [if_neg (by simp [ho]), if_neg (by omega)]
            · rw [hw.2.1 h, if_pos ⟨decide_eq_true (by omega), .inl rfl⟩, if_pos (.inl (by omega))]
          rw [hv] at he
          refine Ev.bindc he ?_
          exact Ev.bind (fround_made_c neg hr.1 hr.2.1 (by omega) (by omega) hr.2.2) (Ev.same rfl)
theorem fround_FromInt_c {n : Int} (h0 : -9223372036854775808 ≤ n) (h1 : n ≤ 9223372036854775807) : Ev (fun k => fround_FromInt.f k n) (sgn (decide (n < 0)) (Rd (if n < 0 then -n else n) 0)) := by
  by_cases h : n < 0
  · rw [decide_eq_true h, if_pos h]
    refine Ev.ifp h ?_
    have e : IntKind.u64.wrap (-(IntKind.u64.wrap n)) = -n := by rw [wu, wu]; omega
    rw [e]
    refine Ev.bind (fround_Word_c (e := 0) true (by unfold U; omega)) (Ev.same ?_)
    rw [ce_id (by omega) (by omega)]
  · rw [decide_eq_false h, if_neg h]
    refine Ev.ifn h ?_
    rw [wu_id (by omega) (by omega)]
    refine Ev.bind (fround_Word_c (e := 0) false (by unfold U; omega)) (Ev.same ?_)
    rw [ce_id (by omega) (by omega)]
end Go.Proofs.Ytjocbnjpjihpnaa.M
end
section
namespace Go.Proofs.Ytjocbnjpjihpnaa.M
open Go.RowKit Go.Proofs.Ytjocbnjpjihpnaa.P Go.Proofs.YtjocbnjpjihpnaaW.PrintWords Go.Proofs.YtjocbnjpjihpnaaW.PrintLast Go.Proofs.YtjocbnjpjihpnaaW.PrintMore
set_option linter.unusedVariables false

theorem shn_nat {n : Int} (h : n ≤ 65536) : shn n = n.toNat := by
  rcases Int.lt_or_le n 0 with h0 | h0
  · unfold shn mn mx
    split <;> split <;> omega
  · exact shn_of h0 h
theorem ref10_Of_j1 {w u : Int} (neg : Bool) (h0 : 0 ≤ w) (h1 : w ≤ 9007199254740992) (hu0 : -1074 ≤ u) (hu1 : u ≤ 971) (hw : u = -1074 ∨ 4503599627370496 ≤ w) :
    Ev (fun k => gradineref10_Of.j1 k neg u w) (sgn neg ((u + 1074) * 4503599627370496 + w)) := by
  refine Ev.step (fun k => gradineref10_Of.j1.eq_2 ..) ?_
  refine Ev.bind (ref09_Make_c neg (m := w) (e := u) (by unfold U; omega)) ?_
  have hk := Mk_made (neg := neg) h0 h1 hu0 hu1 hw
  by_cases h : (Mk neg w u).2 = true
  · rw [if_pos h] at hk
    exact Ev.ifp h (Ev.same (congrArg some hk))
  · rw [if_neg h] at hk
    exact Ev.ifn h (Ev.bindc (ref09_Inf_c neg) (Ev.same (congrArg some hk)))
theorem rd_dg_zero {w : Int} (h0 : 0 < w) (h1 : w < 18446744073709551616) : dg w = [w] := by
  rw [dg_pos h0, dg_nil (by omega), Int.emod_eq_of_lt (by omega) h1]
theorem ref10_Of_j0 {w u : Int} (neg : Bool) (h0 : 0 ≤ w) (h1 : w ≤ 9007199254740992) (hu0 : -1074 ≤ u) (hu1 : u ≤ 971) (hw : u = -1074 ∨ 4503599627370496 ≤ w) :
    Ev (fun k => gradineref10_Of.j0 k neg u (dg w)) (sgn neg ((u + 1074) * 4503599627370496 + w)) := by
  refine Ev.step (fun k => gradineref10_Of.j0.eq_2 ..) ?_
  rcases (show w = 0 ∨ 0 < w by omega) with rfl | h
  · rw [dg_zero]
    exact Ev.ifn (by decide) (ref10_Of_j1 neg h0 h1 hu0 hu1 hw)
  · rw [rd_dg_zero h (by omega)]
    exact Ev.ifp (by simp) (Ev.ifp (by simp) (ref10_Of_j1 neg h0 h1 hu0 hu1 hw))
theorem cmpI_more {x y : Int} : cmpI x y > 0 ↔ y < x := by unfold cmpI; split <;> (try split) <;> omega
theorem cmpI_same {x y : Int} : cmpI x y = 0 ↔ x = y := by unfold cmpI; split <;> (try split) <;> omega
theorem ref10_Of_c {l : List Int} (neg : Bool) (hl : Wl l) (hn : l.length ≤ 900) {e : Int} (he0 : -2000000000000 ≤ e) (he1 : e ≤ 2000000000000) : Ev (fun k => gradineref10_Of.f k neg l e) (sgn neg (Rd (nv l) e)) := by
  have h0 := nv_nonneg hl.1
  have hb := bl_nv hl.1
  refine Ev.bind (ref02_Trim_c hl) ?_
  generalize nv l = N at *
  have hb0 := bl_nonneg N
  have hbN : bl N ≤ 57600 := by omega
  clear hb
  have wN : Wl (dg N) := Wl_dg (by omega)
  have lN := dg_len_bl N
  by_cases hz : N = 0
  · rw [hz]
    refine Ev.ifp rfl (Ev.bindc (ref09_Signed_c neg (by omega) (by omega)) (Ev.same ?_))
    rw [Rd_zero]
  · have hp : 0 < N := by omega
    have b1 := bl_pos hp
    refine Ev.ifn (fun k => hz ((dg_len_zero h0).1 (by omega))) ?_
    have BN := ref02_Bits_c wN
    rw [nv_dg h0] at BN
    refine Ev.bind BN ?_
    have hu : un N e = max (bl N + e - 53) (-1074) := rfl
    by_cases h1 : e > 2000
    · refine Ev.ifp h1 (Ev.bindc (ref09_Inf_c neg) (Ev.same ?_))
      rw [Rd_inf hp (by omega)]
    · refine Ev.ifn h1 ?_
      rw [w64_id (n := -1200 - bl N) (by omega) (by omega)]
      by_cases h2 : e < -1200 - bl N
      · refine Ev.ifp h2 (Ev.bindc (ref09_Signed_c neg (by omega) (by omega)) (Ev.same ?_))
        rw [Rd_none h0 (by omega)]
      · refine Ev.ifn h2 ?_
        rw [un_text2 (by omega) (by omega) (by omega)]
        by_cases h3 : un N e > 971
        · refine Ev.ifp h3 (Ev.bindc (ref09_Inf_c neg) (Ev.same ?_))
          rw [Rd_over hp h3]
        · refine Ev.ifn h3 ?_
          have hr := ru_units (e := e) hp
          have hq := un_q (e := e) hp
          have hu1 := un_ge N e
          rw [Rd_pos hp (by omega)]
          have S1 := ref02_Shl_c wN (by omega) (e - un N e)
          rw [nv_dg h0, shn_nat (by omega)] at S1
          rw [w64_id (n := e - un N e) (by omega) (by omega)]
          refine Ev.bind S1 ?_
          by_cases h4 : e < un N e
          · refine Ev.ifp h4 ?_
            rw [w64_id (n := un N e - e) (by omega) (by omega)]
            obtain ⟨d, hd⟩ : ∃ d : Nat, un N e - e = d := ⟨(un N e - e).toNat, by omega⟩
            have hdd : d ≤ 58000 := by omega
            have e0 : ru N e (un N e) = rnd N d := by
              unfold ru
              rw [show (e - un N e).toNat = 0 by omega, Int.pow_zero, Int.mul_one, hd, Int.toNat_natCast]
            rw [show (e - un N e).toNat = 0 by omega, Int.pow_zero, Int.mul_one, hd, Int.toNat_natCast] at hq
            rw [e0] at hr ⊢
            rw [hd]
            have R1 := ref02_Shr_c wN (n := (d : Int)) (by omega)
            rw [nv_dg h0, Int.toNat_natCast] at R1
            refine Ev.bind R1 ?_
            have hdm := Int.mul_ediv_add_emod N (2 ^ d)
            have hm0 := Int.emod_nonneg N (show (2 : Int) ^ d ≠ 0 by have := pow_pos d; omega)
            have hm1 := Int.emod_lt_of_pos N (pow_pos d)
            have hle : N / 2 ^ d ≤ N := Int.ediv_le_self _ h0
            have bq := bl_mono hle
            have wq : Wl (dg (N / 2 ^ d)) := Wl_dg (by omega)
            have lq := dg_len_bl (N / 2 ^ d)
            have S2 := ref02_Shl_c wq (by omega) (d : Int)
            rw [nv_dg hq.1, shn_nat (by omega), Int.toNat_natCast] at S2
            refine Ev.bind S2 ?_
            rw [Int.mul_comm] at hdm
            have hp0 : 0 ≤ N / 2 ^ d * 2 ^ d := Int.mul_nonneg hq.1 (by have := pow_pos d; omega)
            have bp := bl_mono (show N / 2 ^ d * 2 ^ d ≤ N by omega)
            have lp := dg_len_bl (N / 2 ^ d * 2 ^ d)
            have D := ref02_Sub_c wN (b := dg (N / 2 ^ d * 2 ^ d)) (Wl_dg (by omega)) (by omega) (by omega) (by rw [nv_dg h0, nv_dg hp0]; omega)
            rw [nv_dg h0, nv_dg hp0, show N - N / 2 ^ d * 2 ^ d = N % 2 ^ d by omega] at D
            refine Ev.bind D ?_
            have br := bl_mono (show N % 2 ^ d ≤ N by omega)
            have wr : Wl (dg (N % 2 ^ d)) := Wl_dg (by omega)
            have lr := dg_len_bl (N % 2 ^ d)
            have S3 := ref02_Shl_c wr (by omega) 1
            rw [nv_dg hm0, shn_nat (by omega), show (1 : Int).toNat = 1 from rfl, Int.pow_one] at S3
            refine Ev.bind S3 ?_
            have w1 : Wl [1] := ⟨Ws_one (by unfold U; omega), by decide⟩
            have S4 := ref02_Shl_c w1 (by decide) (d : Int)
            rw [nv_one, shn_nat (by omega), Int.toNat_natCast, Int.one_mul] at S4
            refine Ev.bind S4 ?_
            have bd : bl ((2 : Int) ^ d) ≤ d + 1 := bl_le_of (n := d + 1) (by rw [Int.pow_succ]; have := pow_pos d; omega)
            have br2 := bl_mono (show N % 2 ^ d * 2 ≤ 2 ^ (d + 1) by rw [Int.pow_succ]; omega)
            have bd2 : bl ((2 : Int) ^ (d + 1)) ≤ d + 2 := bl_le_of (n := d + 2) (by rw [Int.pow_succ, Int.pow_succ]; have := pow_pos d; omega)
            have C := ref02_Cmp_c (a := dg (N % 2 ^ d * 2)) (b := dg (2 ^ d)) (Wl_dg (by omega)) (Wl_dg (by omega))
            rw [nv_dg (by omega), nv_dg (by have := pow_pos d; omega)] at C
            refine Ev.bind C ?_
            have A := ref02_Add_c wq w1 (by omega) (by decide)
            rw [nv_dg hq.1, nv_one] at A
            clear S1 R1 S2 S3 S4 D C BN
            by_cases h5 : cmpI (N % 2 ^ d * 2) (2 ^ d) > 0
            · refine Ev.ifp h5 (Ev.bind A ?_)
              have e1 : rnd N d = N / 2 ^ d + 1 := by
                unfold rnd
                rw [if_pos (.inl (by have := cmpI_more.1 h5; omega))]
              rw [e1] at hr ⊢
              exact ref10_Of_j0 neg (by omega) hr.2.1 hu1 (by omega) hr.2.2
            · refine Ev.ifn h5 ?_
              by_cases h6 : cmpI (N % 2 ^ d * 2) (2 ^ d) = 0
              · refine Ev.ifp h6 (Ev.bindc (ref02_Bit_c wq (by omega)) ?_)
                rw [nv_dg hq.1]
                have h7 := cmpI_same.1 h6
                by_cases h8 : N / 2 ^ d % 2 = 1
                · refine Ev.ifp (by unfold bitI; simp [h8]) (Ev.bind A ?_)
                  have e1 : rnd N d = N / 2 ^ d + 1 := by
                    unfold rnd
                    rw [if_pos (.inr ⟨by omega, h8⟩)]
                  rw [e1] at hr ⊢
                  exact ref10_Of_j0 neg (by omega) hr.2.1 hu1 (by omega) hr.2.2
                · refine Ev.ifn (by unfold bitI; simp [h8]) ?_
                  have e1 : rnd N d = N / 2 ^ d := by
                    unfold rnd
                    rw [if_neg (by omega)]
                  rw [e1] at hr ⊢
                  exact ref10_Of_j0 neg (by omega) hr.2.1 hu1 (by omega) hr.2.2
              · refine Ev.ifn h6 ?_
                have e1 : rnd N d = N / 2 ^ d := by
                  unfold rnd
                  rw [if_neg ?_]
                  intro k
                  rcases k with k | k
                  · exact h5 (cmpI_more.2 (by omega))
                  · exact h6 (cmpI_same.2 (by omega))
                rw [e1] at hr ⊢
                exact ref10_Of_j0 neg (by omega) hr.2.1 hu1 (by omega) hr.2.2
          · refine Ev.ifn h4 ?_
            have e0 : ru N e (un N e) = N * 2 ^ (e - un N e).toNat := by
              unfold ru
              rw [show (un N e - e).toNat = 0 by omega, rnd_zero]
            rw [e0] at hr ⊢
            exact ref10_Of_j0 neg hr.1 hr.2.1 hu1 (by omega) hr.2.2
theorem ref10_Half_c {l : List Int} (hl : Wl l) (hn : l.length ≤ 900) : Ev (fun k => gradineref10_Half.f k l) (dg (2 * nv l + 1)) := by
  have h0 := nv_nonneg hl.1
  have hb := bl_nv hl.1
  have S := ref02_Shl_c hl (by omega) 1
  rw [shn_nat (by omega), show (1 : Int).toNat = 1 from rfl, Int.pow_one] at S
  refine Ev.bind S ?_
  generalize nv l = N at *
  have b1 : bl (N * 2) ≤ 58000 := by
    have := bl_mul (x := N) (y := 2) h0 (by omega)
    have : bl 2 = 2 := rfl
    omega
  have lN := dg_len_bl (N * 2)
  have A := ref02_Add_c (a := dg (N * 2)) (b := [1]) (Wl_dg (by omega)) ⟨Ws_one (by unfold U; omega), by decide⟩ (by omega) (by decide)
  rw [nv_dg (by omega), nv_one, show N * 2 + 1 = 2 * N + 1 by omega] at A
  exact Ev.bind A (Ev.same rfl)
theorem ref10_More_c {l : List Int} (neg : Bool) (hl : Wl l) (hn : l.length ≤ 100) (e : Int) (more : Bool) : Ev (fun k => gradineref10_More.f k neg l e more) (sgn neg (if more then Rd (2 * nv l + 1) (ce e - 1) else Rd (nv l) (ce e))) := by
  have hE := ce_range e
  have eE : mn (mx e (-1099511627776)) 1099511627776 = ce e := rfl
  cases more
  · refine Ev.ifn (by decide) ?_
    rw [eE]
    exact Ev.bind (ref10_Of_c neg hl (by omega) (by omega) (by omega)) (Ev.same rfl)
  · refine Ev.ifp rfl (Ev.bind (ref10_Half_c hl (by omega)) ?_)
    rw [eE]
    have h0 := nv_nonneg hl.1
    have hb := bl_nv hl.1
    have b1 : bl (2 * nv l + 1) ≤ 6500 := by
      have a1 := bl_lt (nv l)
      have b0 := bl_nonneg (nv l)
      have := bl_le_of (x := 2 * nv l + 1) (n := (bl (nv l)).toNat + 1) (by rw [Int.pow_succ]; omega)
      omega
    have lN := dg_len_bl (2 * nv l + 1)
    have := ref10_Of_c neg (l := dg (2 * nv l + 1)) (Wl_dg (by omega)) (by omega) (e := ce e - 1) (by omega) (by omega)
    rw [nv_dg (by omega)] at this
    exact Ev.bind this (Ev.same rfl)
end Go.Proofs.Ytjocbnjpjihpnaa.M
end
section
namespace Go.Proofs.Ytjocbnjpjihpnaa.M
open Go.RowKit Go.Proofs.Ytjocbnjpjihpnaa.P Go.Proofs.YtjocbnjpjihpnaaW.PrintWords Go.Proofs.YtjocbnjpjihpnaaW.PrintLast Go.Proofs.YtjocbnjpjihpnaaW.PrintMore
set_option linter.unusedVariables false

theorem Rq_whole (n : Int) : (Rq n 1).1 = decide (n < 0) ∧ (Rq n 1).2.1 = dg (if n < 0 then -n else n) := by
  by_cases h0 : n = 0
  · subst h0; exact ⟨rfl, rfl⟩
  · have hn : 0 < (if n < 0 then -n else n) := by split <;> omega
    have e := Rq_of (decide (n < 0)) (d := 1) hn
    have s : sgI (decide (n < 0)) (if n < 0 then -n else n) = n := by
      unfold sgI
      by_cases h : n < 0
      · rw [decide_eq_true h, if_pos rfl, if_pos h]; omega
      · rw [decide_eq_false h, if_neg Bool.false_ne_true, if_neg h]
    rw [s, gc_one (Int.le_of_lt hn), Int.ediv_one] at e
    rw [e]
    exact ⟨rfl, rfl⟩
theorem ref10_FromInt_c {n : Int} (h0 : -9223372036854775808 ≤ n) (h1 : n ≤ 9223372036854775807) : Ev (fun k => gradineref10_FromInt.f k n) (sgn (decide (n < 0)) (Rd (if n < 0 then -n else n) 0)) := by
  have hn : 0 ≤ (if n < 0 then -n else n) ∧ (if n < 0 then -n else n) ≤ 9223372036854775808 := by split <;> omega
  have b : bl (if n < 0 then -n else n) ≤ 64 := bl_64 (by omega)
  have l := dg_len_bl (if n < 0 then -n else n)
  have O := ref10_Of_c (l := dg (if n < 0 then -n else n)) (e := 0) (decide (n < 0)) (Wl_dg (by omega)) (by omega) (by omega) (by omega)
  rw [nv_dg hn.1, ← (Rq_whole n).1, ← (Rq_whole n).2] at O
  rw [← (Rq_whole n).1]
  exact Ev.bind (ref07_Of_c h0 h1) (Ev.bind O (Ev.same rfl))
end Go.Proofs.Ytjocbnjpjihpnaa.M
end
section
namespace Go.Proofs.Ytjocbnjpjihpnaa.M
open Go.RowKit Go.Proofs.YtjocbnjpjihpnaaW.PrintWords Go.Proofs.YtjocbnjpjihpnaaW.PrintLast Go.Proofs.YtjocbnjpjihpnaaW.PrintMore
set_option linter.unusedVariables false

/-! ### Products and quotients by 1, of opposites -/
theorem word_finite {a : Int} (h : U a) (h1 : fk a ≠ 4) (h3 : fk a ≠ 3) : sgn (fs a) (Rd (pm a) (pe a)) = a := by
  have k := fk_eq a
  rw [Rd_parts (by omega)]
  exact (word_parts h).symm
/-! ### The root of a square -/
/-! ### The nearest whole number, powers of two, the order -/
def near (b : Int) : Int × Bool := if fx b = 2047 ∨ bl (pm b) + pe b > 62 then (0, false) else (if fs b then -(ru (pm b) (pe b) 0) else ru (pm b) (pe b) 0, true)
def fscale (b k : Int) : Int := if fx b = 2047 then cl b else sgn (fs b) (Rd (pm b) (pe b + min (max k (-5000)) 5000))
theorem fscale_far (b k : Int) : Rd (pm b) (pe b + min (max k (-9000)) 9000) = Rd (pm b) (pe b + min (max k (-5000)) 5000) := by
  have h1 := pm_range b
  have h2 := pe_range b
  have h3 : bl (pm b) ≤ 53 := bl_le_of (n := 53) (by omega)
  rcases (show pm b = 0 ∨ 0 < pm b by omega) with h | h
  · rw [h, Rd_zero, Rd_zero]
  · rcases (show 5000 < k ∨ k < -5000 ∨ (-5000 ≤ k ∧ k ≤ 5000) by omega) with hk | hk | hk
    · rw [Rd_inf h (by omega), Rd_inf h (by omega)]
    · rw [Rd_none (by omega) (by omega), Rd_none (by omega) (by omega)]
    · congr 1
      omega
def fkey (b : Int) : Int := if fs b then -(b - 9223372036854775808) else b
def less (a b : Int) : Bool := decide (fk a ≠ 4 ∧ fk b ≠ 4 ∧ fkey a < fkey b)
def fint (n : Int) : Int := sgn (decide (n < 0)) (Rd (if n < 0 then -n else n) 0)
theorem fint_U (n : Int) : U (fint n) := sgnRd_U ..
end Go.Proofs.Ytjocbnjpjihpnaa.M
end
section
namespace Go.Proofs.Ytjocbnjpjihpnaa.M
open Go.RowKit Go.Proofs.YtjocbnjpjihpnaaW.PrintWords Go.Proofs.YtjocbnjpjihpnaaW.PrintLast Go.Proofs.YtjocbnjpjihpnaaW.PrintMore
set_option linter.unusedVariables false

theorem or_one {x : Int} (h : U x) : Go.bits .or .u64 x 1 = x / 2 * 2 + 1 := by
  obtain ⟨h0, h1⟩ := h
  have hj : Go.bits .or .u64 (x / 2 * 2) 1 = x / 2 * 2 + 1 := or_join 1 _ _ (by omega) (by omega) (by omega) (by omega) (by omega) (by omega)
  rcases (show x % 2 = 0 ∨ x % 2 = 1 by omega) with h | h
  · rw [show x / 2 * 2 = x by omega] at hj ⊢
    exact hj
  · obtain ⟨a, ha⟩ := Int.eq_ofNat_of_zero_le (show 0 ≤ x / 2 * 2 by omega)
    rw [ha] at hj ⊢
    have e1 := or_nat a 1 (by omega) (by decide)
    have e2 := or_nat (a ||| 1) 1 (by have := Nat.or_lt_two_pow (n := 64) (x := a) (y := 1) (by omega) (by decide); exact this) (by decide)
    rw [Nat.or_assoc, Nat.or_self] at e2
    rw [show ((1 : Nat) : Int) = 1 from rfl] at e1 e2
    rw [hj] at e1
    rw [← e1] at e2
    rw [show x = (a : Int) + 1 by omega]
    exact e2
end Go.Proofs.Ytjocbnjpjihpnaa.M
end
section
namespace Go.Proofs.Ytjocbnjpjihpnaa.M
open Go.RowKit Go.Proofs.Ytjocbnjpjihpnaa.P Go.Proofs.YtjocbnjpjihpnaaW.PrintWords Go.Proofs.YtjocbnjpjihpnaaW.PrintLast Go.Proofs.YtjocbnjpjihpnaaW.PrintMore
set_option linter.unusedVariables false

theorem fsum_odd_c {m : Int} (h0 : 0 ≤ m) (h1 : m < 9007199254740992) (s : Nat) : fsum_odd.f m s = some (st m s) := by
  unfold fsum_odd.f
  by_cases hs : (s : Int) > 63
  · rw [if_pos hs]
    have := pow_le_pow (a := 64) (b := s) (by omega)
    unfold st mn
    rw [Int.emod_eq_of_lt h0 (by omega), Int.ediv_eq_zero_of_lt h0 (by omega)]
    rcases (show m = 0 ∨ 1 ≤ m by omega) with h | h
    · rw [h]; rfl
    · rw [if_neg (show ¬ m = 0 by omega)]
      congr 1
      split <;> omega
  · rw [if_neg hs, if_pos (by omega), shr_u _ _ (by omega), shl_u _ _ (by omega), Int.toNat_natCast]
    have hp := pow_pos s
    have hd := Int.mul_ediv_add_emod m (2 ^ s)
    have hr := Int.emod_nonneg m (show (2 : Int) ^ s ≠ 0 by omega)
    have hq : 0 ≤ m / 2 ^ s := Int.ediv_nonneg h0 (by omega)
    have hqm : m / 2 ^ s ≤ m := Int.ediv_le_self _ h0
    have hpq : 0 ≤ m / 2 ^ s * 2 ^ s := Int.mul_nonneg hq (by omega)
    rw [Int.mul_comm] at hd
    rw [Int.emod_eq_of_lt hpq (by omega), or_one (by unfold U; omega)]
    unfold st
    by_cases h : m % 2 ^ s = 0
    · rw [if_pos h, if_pos (by omega)]
    · rw [if_neg h, if_neg (by omega)]
theorem fsum_finite_j0 {m e n f : Int} (a b : Bool) (hm0 : 0 ≤ m) (hm : m < 9007199254740992) (hn0 : 0 ≤ n) (hn : n < 9007199254740992) (hef : f ≤ e) (hf : -1074 ≤ f) (he : e ≤ 1000) (hw : e = -1074 ∨ 4503599627370496 ≤ m) :
    Ev (fun k => fsum_finite.j0 k a m e b n f) (if a = b then sgn a (Rd (m * 2 ^ (e - f).toNat + n) f) else if m * 2 ^ (e - f).toNat = n then 0 else if m * 2 ^ (e - f).toNat > n then sgn a (Rd (m * 2 ^ (e - f).toNat - n) f) else sgn b (Rd (n - m * 2 ^ (e - f).toNat) f)) := by
  refine Ev.eqv (fun k => fsum_finite.j0.eq_1 ..) ?_
  have e1 : mn (wrap64 (e - f)) 10 = min (e - f) 10 := by
    rw [w64_id (by omega) (by omega)]
    unfold mn
    split <;> omega
  obtain ⟨up, hup⟩ : ∃ up : Nat, (up : Int) = min (e - f) 10 := ⟨(min (e - f) 10).toNat, by omega⟩
  obtain ⟨s, hs⟩ : ∃ s : Nat, e - up - f = s := ⟨(e - up - f).toNat, by omega⟩
  rw [e1, ← hup]
  have e2 : wrap64 (e - (up : Int)) = e - up := w64_id (by omega) (by omega)
  have e3 : wrap64 (e - (up : Int) - f) = s := by rw [w64_id (by omega) (by omega)]; exact hs
  rw [e2, e3]
  refine Ev.ifp (by omega) (Ev.bindc (fsum_odd_c hn0 hn s) ?_)
  have hS := sum_st hm0 hm hn0 hn hef hf hw hup hs
  have hX0 : 0 ≤ m * 2 ^ up := Int.mul_nonneg hm0 (by have := pow_pos up; omega)
  have hX1 : m * 2 ^ up ≤ 9007199254740991 * 1024 := Int.mul_le_mul (by omega) (pow_le_pow (show up ≤ 10 by omega)) (by have := pow_pos up; omega) (by omega)
  have hY0 := st_nonneg hn0 s
  have hY1 : st n s ≤ n + 1 := by
    have := st_le hn0 s
    have : n / 2 ^ s ≤ n := Int.ediv_le_self _ hn0
    omega
  rw [Int.toNat_natCast, wu_id hX0 (by omega), wu_id (n := m * 2 ^ up + st n s) (by omega) (by omega)]
  obtain ⟨s1, s2, s3, s4, s5⟩ := hS
  generalize m * 2 ^ up = X at *
  generalize st n s = Y at *
  generalize m * 2 ^ (e - f).toNat = M at *
  have hce : ce (e - (up : Int)) = e - up := ce_id (by omega) (by omega)
  by_cases hab : a = b
  · rw [if_pos hab]
    refine Ev.ifp (by rw [hab]; simp) ?_
    refine Ev.bind (fround_Word_c (e := e - (up : Int)) a (m := X + Y) (by unfold U; omega)) (Ev.same ?_)
    rw [hce, s1]
  · rw [if_neg hab]
    refine Ev.ifn (by simp [hab]) ?_
    by_cases h1 : X > Y
    · rw [if_neg (show ¬ M = n by omega), if_pos (s2.1 h1)]
      refine Ev.ifp h1 ?_
      rw [wu_id (by omega) (by omega)]
      refine Ev.bind (fround_Word_c (e := e - (up : Int)) a (m := X - Y) (by unfold U; omega)) (Ev.same ?_)
      rw [hce, s4 h1]
    · refine Ev.ifn h1 ?_
      by_cases h2 : X < Y
      · rw [if_neg (show ¬ M = n by omega), if_neg (show ¬ M > n by omega)]
        refine Ev.ifp h2 ?_
        rw [wu_id (by omega) (by omega)]
        refine Ev.bind (fround_Word_c (e := e - (up : Int)) b (m := Y - X) (by unfold U; omega)) (Ev.same ?_)
        rw [hce, s5 h2]
      · rw [if_pos (show M = n by omega)]
        exact Ev.ifn h2 (Ev.same rfl)
theorem fsum_finite_c {a b : Int} (ha : fx a ≠ 2047) (hb : fx b ≠ 2047) : Ev (fun k => fsum_finite.f k (fs a) (pm a) (pe a) (fs b) (pm b) (pe b)) (fsF a b) := by
  have a1 := pm_range a
  have a2 := pe_range a
  have b1 := pm_range b
  have b2 := pe_range b
  by_cases h : pe a < pe b
  · refine Ev.ifp h ((fsum_finite_j0 (fs b) (fs a) b1.1 b1.2 a1.1 a1.2 (by omega) (by omega) (by omega) b2.2.2.2).eqr ?_)
    rw [fsF_comm]
    unfold fsF
    rw [show min (pe b) (pe a) = pe a by omega, show (pe a - pe a).toNat = 0 by omega, Int.pow_zero, Int.mul_one]
  · refine Ev.ifn h ((fsum_finite_j0 (fs a) (fs b) a1.1 a1.2 b1.1 b1.2 (by omega) (by omega) (by omega) a2.2.2.2).eqr ?_)
    unfold fsF
    rw [show min (pe a) (pe b) = pe b by omega, show (pe b - pe b).toNat = 0 by omega, Int.pow_zero, Int.mul_one]
theorem fsum_of_c {b : Int} (h : U b) (hx : fx b ≠ 2047) : Ev (fun k => fsum_of.f k b) (fs b, pm b, pe b) := by
  have := fbits_Parts_c h
  rw [if_neg hx] at this
  exact Ev.bind this (Ev.same rfl)
theorem fsum_Add_c {a b : Int} (ha : U a) (hb : U b) : Ev (fun k => fsum_Add.f k a b) (fadd a b) := by
  refine Ev.bindc (fbits_Kind_c ha) (Ev.bindc (fbits_Kind_c hb) ?_)
  have nan : ∀ t : Bool, t = true → (fk a = 4 ∨ fk b = 4) → Ev (fun k => fsum_Add.j0 k a b (fk a) (fk b) t) (fadd a b) := by
    intro t ht h
    refine Ev.step (fun k => fsum_Add.j0.eq_2 ..) (Ev.ifp ht (Ev.bindc fbits_Nan_c (Ev.same ?_)))
    unfold fadd
    rw [if_pos h]
  by_cases h1 : fk a = 4
  · exact Ev.ifp h1 (nan _ rfl (.inl h1))
  · refine Ev.ifn h1 ?_
    by_cases h2 : fk b = 4
    · exact nan _ (by rw [h2]; rfl) (.inr h2)
    · refine Ev.step (fun k => fsum_Add.j0.eq_2 ..) (Ev.ifn (by simp [h2]) ?_)
      have j1 : ∀ t : Bool, (t = true ↔ (fk a = 3 ∧ fk b = 3 ∧ a ≠ b)) → Ev (fun k => fsum_Add.j1 k a b (fk a) (fk b) t) (fadd a b) := by
        intro t ht
        refine Ev.step (fun k => fsum_Add.j1.eq_2 ..) ?_
        unfold fadd
        rw [if_neg (show ¬ (fk a = 4 ∨ fk b = 4) by omega)]
        by_cases h3 : fk a = 3 ∧ fk b = 3 ∧ a ≠ b
        · rw [if_pos h3]
          exact Ev.ifp (ht.2 h3) (Ev.bindc fbits_Nan_c (Ev.same rfl))
        · rw [if_neg h3]
          refine Ev.ifn (fun k => h3 (ht.1 k)) ?_
          by_cases h4 : fk a = 3
          · rw [if_pos h4]
            exact Ev.ifp h4 (Ev.same rfl)
          · rw [if_neg h4]
            refine Ev.ifn h4 ?_
            by_cases h5 : fk b = 3
            · rw [if_pos h5]
              exact Ev.ifp h5 (Ev.same rfl)
            · rw [if_neg h5]
              refine Ev.ifn h5 (Ev.bind (fsum_of_c ha (fk_fin (fun k => h1 k) h4)) (Ev.bind (fsum_of_c hb (fk_fin h2 h5)) ?_))
              exact Ev.bind (fsum_finite_c (fk_fin h1 h4) (fk_fin h2 h5)) (Ev.same rfl)
      by_cases h3 : fk a = 3
      · refine Ev.ifp h3 ?_
        by_cases h4 : fk b = 3
        · exact Ev.ifp h4 (j1 _ (by simp [h3, h4]))
        · exact Ev.ifn h4 (j1 _ (by simp [h4]))
      · exact Ev.ifn h3 (j1 _ (by simp [h3]))
theorem fsum_Sub_c {a b : Int} (ha : U a) (hb : U b) : Ev (fun k => fsum_Sub.f k a b) (fsub a b) := Ev.bindc (fbits_Flip_c hb) (Ev.bind (fsum_Add_c ha (fl_U b)) (Ev.same rfl))

/-! ### The reference -/
theorem ref11_numbers_c {a b : Int} (ha : U a) (hb : U b) (hxa : fx a ≠ 2047) (hxb : fx b ≠ 2047) : Ev (fun k => gradineref11_numbers.f k a b) (fsF a b) := by
  have a1 := pm_range a
  have a2 := pe_range a
  have b1 := pm_range b
  have b2 := pe_range b
  have em : mn (pe a) (pe b) = min (pe a) (pe b) := by unfold mn; split <;> omega
  refine Ev.bindc (ref09_Parts_c ha) (Ev.bindc (ref09_Parts_c hb) ?_)
  dsimp only
  rw [em]
  unfold fsF
  obtain ⟨l, hl⟩ : ∃ l, min (pe a) (pe b) = l := ⟨_, rfl⟩
  rw [hl, w64_id (n := pe a - l) (by omega) (by omega), w64_id (n := pe b - l) (by omega) (by omega)]
  have wa : Wl [pm a] := ⟨Ws_one (by unfold U; omega), by simp⟩
  have wb : Wl [pm b] := ⟨Ws_one (by unfold U; omega), by simp⟩
  have Sa := ref02_Shl_c wa (by simp) (pe a - l)
  have Sb := ref02_Shl_c wb (by simp) (pe b - l)
  rw [nv_one, shn_nat (by omega)] at Sa Sb
  refine Ev.bind Sa (Ev.bind Sb (Ev.bindc (ref09_Neg_c ha) (Ev.bindc (ref09_Neg_c hb) ?_)))
  have bX : bl (pm a * 2 ^ (pe a - l).toNat) ≤ 4000 := by
    have h1 := bl_mul a1.1 (show (0 : Int) ≤ 2 ^ (pe a - l).toNat by have := pow_pos (pe a - l).toNat; omega)
    have h2 : bl (pm a) ≤ 53 := bl_le_of (n := 53) a1.2
    have h3 : bl ((2 : Int) ^ (pe a - l).toNat) ≤ ((pe a - l).toNat + 1 : Nat) := bl_le_of (by rw [Int.pow_succ]; have := pow_pos (pe a - l).toNat; omega)
    omega
  have bY : bl (pm b * 2 ^ (pe b - l).toNat) ≤ 4000 := by
    have h1 := bl_mul b1.1 (show (0 : Int) ≤ 2 ^ (pe b - l).toNat by have := pow_pos (pe b - l).toNat; omega)
    have h2 : bl (pm b) ≤ 53 := bl_le_of (n := 53) b1.2
    have h3 : bl ((2 : Int) ^ (pe b - l).toNat) ≤ ((pe b - l).toNat + 1 : Nat) := bl_le_of (by rw [Int.pow_succ]; have := pow_pos (pe b - l).toNat; omega)
    omega
  have X0 : 0 ≤ pm a * 2 ^ (pe a - l).toNat := Int.mul_nonneg a1.1 (by have := pow_pos (pe a - l).toNat; omega)
  have Y0 : 0 ≤ pm b * 2 ^ (pe b - l).toNat := Int.mul_nonneg b1.1 (by have := pow_pos (pe b - l).toNat; omega)
  have hl0 : -2000 ≤ l := by omega
  have hl1 : l ≤ 2000 := by omega
  clear Sa Sb wa wb a1 a2 b1 b2 hl em
  generalize pm a * 2 ^ (pe a - l).toNat = X at *
  generalize pm b * 2 ^ (pe b - l).toNat = Y at *
  have wX : Wl (dg X) := Wl_dg (by omega)
  have wY : Wl (dg Y) := Wl_dg (by omega)
  have lX := dg_len_bl X
  have lY := dg_len_bl Y
  have OF : ∀ (s : Bool) (Z : Int), 0 ≤ Z → bl Z ≤ 5000 → Ev (fun k => gradineref10_Of.f k s (dg Z) l) (sgn s (Rd Z l)) := by
    intro s Z hZ hb
    have lZ := dg_len_bl Z
    have := ref10_Of_c s (l := dg Z) (Wl_dg (by omega)) (by omega) (e := l) (by omega) (by omega)
    rwa [nv_dg hZ] at this
  by_cases hs : fs a = fs b
  · rw [if_pos hs]
    refine Ev.ifp (by rw [hs]; simp) ?_
    have A := ref02_Add_c wX wY (by omega) (by omega)
    rw [nv_dg X0, nv_dg Y0] at A
    have bA := bl_add X0 Y0 (m := 4000) bX bY
    exact Ev.bind A (Ev.bind (OF _ _ (by omega) (by omega)) (Ev.same rfl))
  · rw [if_neg hs]
    refine Ev.ifn (by simp [hs]) ?_
    have C := ref02_Cmp_c wX wY
    rw [nv_dg X0, nv_dg Y0] at C
    refine Ev.bind C ?_
    by_cases h1 : X = Y
    · rw [if_pos h1]
      exact Ev.ifp (cmpI_same.2 h1) (Ev.same rfl)
    · rw [if_neg h1]
      refine Ev.ifn (fun k => h1 (cmpI_same.1 k)) ?_
      by_cases h2 : X > Y
      · rw [if_pos h2]
        refine Ev.ifp (cmpI_more.2 h2) ?_
        have D := ref02_Sub_c wX wY (by omega) (by omega) (by rw [nv_dg X0, nv_dg Y0]; omega)
        rw [nv_dg X0, nv_dg Y0] at D
        have := bl_mono (show X - Y ≤ X by omega)
        exact Ev.bind D (Ev.bind (OF _ _ (by omega) (by omega)) (Ev.same rfl))
      · rw [if_neg h2]
        refine Ev.ifn (fun k => h2 (cmpI_more.1 k)) ?_
        have D := ref02_Sub_c wY wX (by omega) (by omega) (by rw [nv_dg X0, nv_dg Y0]; omega)
        rw [nv_dg X0, nv_dg Y0] at D
        have := bl_mono (show Y - X ≤ Y by omega)
        exact Ev.bind D (Ev.bind (OF _ _ (by omega) (by omega)) (Ev.same rfl))
theorem ref11_Add_c {a b : Int} (ha : U a) (hb : U b) : Ev (fun k => gradineref11_Add.f k a b) (fadd a b) := by
  refine Ev.bindc (ref09_Kind_c ha) (Ev.bindc (ref09_Kind_c hb) ?_)
  have j0 : ∀ t : Bool, (t = true ↔ ((fk a = 4 ∨ fk b = 4) ∨ (fk a = 3 ∧ fk b = 3 ∧ a ≠ b))) → Ev (fun k => gradineref11_Add.j0 k a b (fk a) (fk b) t) (fadd a b) := by
    intro t ht
    refine Ev.step (fun k => gradineref11_Add.j0.eq_2 ..) ?_
    unfold fadd
    by_cases h1 : fk a = 4 ∨ fk b = 4
    · rw [if_pos h1]
      exact Ev.ifp (ht.2 (.inl h1)) (Ev.bindc ref09_Nan_c (Ev.same rfl))
    · rw [if_neg h1]
      by_cases h3 : fk a = 3 ∧ fk b = 3 ∧ a ≠ b
      · rw [if_pos h3]
        exact Ev.ifp (ht.2 (.inr h3)) (Ev.bindc ref09_Nan_c (Ev.same rfl))
      · rw [if_neg h3]
        refine Ev.ifn (fun k => (ht.1 k).elim h1 h3) ?_
        by_cases h4 : fk a = 3
        · rw [if_pos h4]
          exact Ev.ifp h4 (Ev.same rfl)
        · rw [if_neg h4]
          refine Ev.ifn h4 ?_
          by_cases h5 : fk b = 3
          · rw [if_pos h5]
            exact Ev.ifp h5 (Ev.same rfl)
          · rw [if_neg h5]
            exact Ev.ifn h5 (Ev.bind (ref11_numbers_c ha hb (fk_fin (fun k => h1 (.inl k)) h4) (fk_fin (fun k => h1 (.inr k)) h5)) (Ev.same rfl))
  by_cases h1 : fk a = 4
  · exact Ev.ifp h1 (j0 _ (by simp [h1]))
  · refine Ev.ifn h1 ?_
    by_cases h2 : fk b = 4
    · exact Ev.ifp h2 (j0 _ (by simp [h2]))
    · refine Ev.ifn h2 ?_
      by_cases h3 : fk a = 3
      · refine Ev.ifp h3 ?_
        by_cases h4 : fk b = 3
        · exact Ev.ifp h4 (j0 _ (by simp [h3, h4]))
        · exact Ev.ifn h4 (j0 _ (by simp [h1, h2, h4]))
      · exact Ev.ifn h3 (j0 _ (by simp [h1, h2, h3]))
theorem ref11_Sub_c {a b : Int} (ha : U a) (hb : U b) : Ev (fun k => gradineref11_Sub.f k a b) (fsub a b) := Ev.bindc (ref09_Flip_c hb) (Ev.bind (ref11_Add_c ha (fl_U b)) (Ev.same rfl))
end Go.Proofs.Ytjocbnjpjihpnaa.M
end
section
namespace Go.Proofs.Ytjocbnjpjihpnaa.M
open Go.RowKit Go.Proofs.YtjocbnjpjihpnaaW.PrintWords Go.Proofs.YtjocbnjpjihpnaaW.PrintLast Go.Proofs.YtjocbnjpjihpnaaW.PrintMore
set_option linter.unusedVariables false

theorem and_one_i64 (x : Int) : Go.bits .and .i64 x 1 = x % 2 := by
  have e : Go.bits .and .i64 x 1 = IntKind.i64.wrap (((x % 18446744073709551616).toNat &&& 1 : Nat) : Int) := by
    simp only [Go.bits, BitVec.toNat_and, BitVec.toNat_ofInt]
    rfl
  rw [e, Nat.and_one_is_mod, IntKind.wrap_i64]
  omega
end Go.Proofs.Ytjocbnjpjihpnaa.M
end
section
namespace Go.Proofs.Ytjocbnjpjihpnaa.M
open Go.RowKit Go.Proofs.Ytjocbnjpjihpnaa.P Go.Proofs.YtjocbnjpjihpnaaW.PrintWords Go.Proofs.YtjocbnjpjihpnaaW.PrintLast Go.Proofs.YtjocbnjpjihpnaaW.PrintMore
set_option linter.unusedVariables false

theorem parts_fin {b : Int} (h : U b) (hx : fx b ≠ 2047) : Ev (fun k => fbits_Parts.f k b) (fs b, pm b, pe b, true) := by
  have := fbits_Parts_c h
  rwa [if_neg hx] at this
theorem mul_word {m n E : Int} (neg : Bool) (hm0 : 0 ≤ m) (hm : m < 9007199254740992) (hn0 : 0 ≤ n) (hn : n < 9007199254740992) (hE0 : -3000 ≤ E) (hE1 : E ≤ 3000) :
    Ev (fun k => (limb_Mul.f m n).bind fun bt898 => ((limb_Len.f k bt898.1).bind fun t900 => (if t900 = 0 then ((fround_Word.f k neg bt898.2 E).bind fun t901 => (some t901)) else (if 0 ≤ (wrap64 (64 - t900)) then (if 0 ≤ t900 then (if (shl .u64 bt898.2 (wrap64 (64 - t900))) = 0 then ((fround_Word.f k neg (Go.bits .or .u64 (shl .u64 bt898.1 (wrap64 (64 - t900))) (shr .u64 bt898.2 t900)) (wrap64 (E + t900))).bind fun t902 => (some t902)) else ((fround_Word.f k neg (Go.bits .or .u64 (Go.bits .or .u64 (shl .u64 bt898.1 (wrap64 (64 - t900))) (shr .u64 bt898.2 t900)) 1) (wrap64 (E + t900))).bind fun t903 => (some t903))) else (none)) else (none))))) (sgn neg (Rd (m * n) E)) := by
  have hP0 : 0 ≤ m * n := Int.mul_nonneg hm0 hn0
  have hP1 : m * n ≤ 9007199254740991 * 9007199254740991 := Int.mul_le_mul (by omega) (by omega) hn0 (by omega)
  refine Ev.bindc (limb_Mul_c (a := m) (b := n) (by unfold U; omega) (by unfold U; omega)) ?_
  dsimp only
  generalize m * n = P at *
  have hhi : U (P / 18446744073709551616) := by unfold U; omega
  refine Ev.bind (limb_Len_c hhi) ?_
  have b1 := bl_nonneg (P / 18446744073709551616)
  have b2 : bl (P / 18446744073709551616) ≤ 42 := bl_le_of (n := 42) (by omega)
  by_cases hz : bl (P / 18446744073709551616) = 0
  · have h0 : P / 18446744073709551616 = 0 := by
      rcases (show P / 18446744073709551616 = 0 ∨ 0 < P / 18446744073709551616 by omega) with h | h
      · exact h
      · have := bl_pos h
        omega
    refine Ev.ifp hz (Ev.bind (fround_Word_c (e := E) neg (m := P % 18446744073709551616) (by unfold U; omega)) (Ev.same ?_))
    rw [ce_id (by omega) (by omega), show P % 18446744073709551616 = P by omega]
  · refine Ev.ifn hz ?_
    have hbP : bl P = bl (P / 18446744073709551616) + 64 := by
      have hge : 18446744073709551616 ≤ P := by
        rcases Int.lt_or_le P 18446744073709551616 with h | h
        · rw [Int.ediv_eq_zero_of_lt hP0 h] at hz
          exact absurd bl_zero hz
        · exact h
      exact bl_shr (x := P) (s := 64) hge
    have hlt := bl_lt (P / 18446744073709551616)
    obtain ⟨s, hs⟩ : ∃ s : Nat, bl (P / 18446744073709551616) = s := ⟨(bl (P / 18446744073709551616)).toNat, by omega⟩
    rw [hs] at hlt hz b2 hbP ⊢
    rw [Int.toNat_natCast] at hlt
    rw [w64_id (n := 64 - (s : Int)) (by omega) (by omega)]
    refine Ev.ifp (by omega) (Ev.ifp (by omega) ?_)
    rw [shl_u _ _ (by omega), shl_u _ _ (by omega), shr_u _ _ (by omega), show (64 - (s : Int)).toNat = 64 - s by omega, Int.toNat_natCast, mod_up _ (show s ≤ 64 by omega)]
    have hp := pow_pos s
    have hp2 := pow_pos (64 - s)
    have hpp : (2 : Int) ^ (64 - s) * 2 ^ s = 18446744073709551616 := by rw [← Int.pow_add, show 64 - s + s = 64 by omega]; rfl
    have hhi0 : 0 ≤ P / 18446744073709551616 * 2 ^ (64 - s) := Int.mul_nonneg (by omega) (by omega)
    have hhi1 : P / 18446744073709551616 * 2 ^ (64 - s) + 2 ^ (64 - s) ≤ 18446744073709551616 := by
      have := Int.mul_le_mul_of_nonneg_right (show P / 18446744073709551616 + 1 ≤ 2 ^ s by omega) (Int.le_of_lt hp2)
      rw [Int.add_mul, Int.one_mul, Int.mul_comm (2 ^ s), hpp] at this
      exact this
    have hlo0 : 0 ≤ P % 18446744073709551616 / 2 ^ s := Int.ediv_nonneg (by omega) (by omega)
    have hlo1 : P % 18446744073709551616 / 2 ^ s < 2 ^ (64 - s) := by rw [Int.ediv_lt_iff_lt_mul hp, hpp]; omega
    have eP : P = P / 18446744073709551616 * 2 ^ (64 - s) * 2 ^ s + P % 18446744073709551616 := by rw [Int.mul_assoc, hpp]; omega
    have eq1 : P / 18446744073709551616 * 2 ^ (64 - s) + P % 18446744073709551616 / 2 ^ s = P / 2 ^ s := by
      conv => rhs; rw [eP]
      rw [Int.add_comm (P / 18446744073709551616 * 2 ^ (64 - s) * 2 ^ s), Int.add_mul_ediv_right _ _ (by omega), Int.add_comm]
    have eq2 : P % 18446744073709551616 % 2 ^ s = P % 2 ^ s := by
      conv => rhs; rw [eP]
      rw [Int.add_comm, Int.add_mul_emod_self_right]
    have hor : Go.bits .or .u64 (P / 18446744073709551616 * 2 ^ (64 - s) % 18446744073709551616) (P % 18446744073709551616 / 2 ^ s) = P / 2 ^ s := by
      rw [Int.emod_eq_of_lt hhi0 (by omega), or_join (64 - s) _ _ hhi0 (Int.mul_emod_left ..) (by omega) hlo0 hlo1 (by omega)]
      exact eq1
    rw [hor, eq2, w64_id (by omega) (by omega)]
    have hU : U (P / 2 ^ s) := by unfold U; omega
    have hPpos : 0 < P := by
      rcases (show P = 0 ∨ 0 < P by omega) with h | h
      · rw [h, bl_zero] at hbP; omega
      · exact h
    have hst := Rd_st (M := P) (e := E) (s := s) hPpos (by unfold un; omega)
    have r0 := Int.emod_nonneg P (show (2 : Int) ^ s ≠ 0 by omega)
    by_cases h1 : P % 2 ^ s = 0
    · refine Ev.ifp (by rw [h1, Int.mul_zero]) ?_
      unfold st at hst
      rw [if_pos h1] at hst
      refine Ev.bind (fround_Word_c (e := E + s) neg hU) (Ev.same ?_)
      rw [ce_id (by omega) (by omega), hst]
    · refine Ev.ifn ?_ ?_
      · have := Int.mul_pos hp2 (show 0 < P % 2 ^ s by omega)
        omega
      · unfold st at hst
        rw [if_neg h1] at hst
        rw [or_one hU]
        refine Ev.bind (fround_Word_c (e := E + s) neg (m := P / 2 ^ s / 2 * 2 + 1) (by unfold U at *; omega)) (Ev.same ?_)
        rw [ce_id (by omega) (by omega), hst]
theorem fprod_Mul_c {a b : Int} (ha : U a) (hb : U b) : Ev (fun k => fprod_Mul.f k a b) (fmul a b) := by
  refine Ev.bindc (fbits_Kind_c ha) (Ev.bindc (fbits_Kind_c hb) (Ev.bindc (fbits_Neg_c ha) (Ev.bindc (fbits_Neg_c hb) ?_)))
  have eb : (!(fs a == fs b)) = (fs a != fs b) := rfl
  rw [eb]
  generalize hneg : (fs a != fs b) = neg
  have hF : fmul a b = if fk a = 4 ∨ fk b = 4 ∨ (fk a = 3 ∧ fk b = 0) ∨ (fk a = 0 ∧ fk b = 3) then NAN else if fk a = 3 ∨ fk b = 3 then sgn neg INF else sgn neg (Rd (pm a * pm b) (pe a + pe b)) := by
    unfold fmul
    rw [hneg]
  have j2 : ∀ t : Bool, (fk a ≠ 4 ∧ fk b ≠ 4) → (fk a = 3 ∨ fk b = 3) → (t = true ↔ (fk a = 0 ∨ fk b = 0)) → Ev (fun k => fprod_Mul.j2 k neg t) (fmul a b) := by
    intro t h4 h3 ht
    refine Ev.step (fun k => fprod_Mul.j2.eq_2 ..) ?_
    rw [hF]
    by_cases h : fk a = 0 ∨ fk b = 0
    · have hc : fk a = 4 ∨ fk b = 4 ∨ (fk a = 3 ∧ fk b = 0) ∨ (fk a = 0 ∧ fk b = 3) := by omega
      rw [if_pos hc]
      exact Ev.ifp (ht.2 h) (Ev.bindc fbits_Nan_c (Ev.same rfl))
    · rw [if_neg (show ¬ (fk a = 4 ∨ fk b = 4 ∨ (fk a = 3 ∧ fk b = 0) ∨ (fk a = 0 ∧ fk b = 3)) by omega), if_pos h3]
      exact Ev.ifn (fun k => h (ht.1 k)) (Ev.bindc (fbits_Inf_c neg) (Ev.same rfl))
  have j1 : ∀ t : Bool, (fk a ≠ 4 ∧ fk b ≠ 4) → (t = true ↔ (fk a = 3 ∨ fk b = 3)) → Ev (fun k => fprod_Mul.j1 k a b (fk a) (fk b) neg t) (fmul a b) := by
    intro t h4 ht
    refine Ev.step (fun k => fprod_Mul.j1.eq_2 ..) ?_
    by_cases h : fk a = 3 ∨ fk b = 3
    · refine Ev.ifp (ht.2 h) ?_
      by_cases h0 : fk a = 0
      · exact Ev.ifp h0 (j2 _ h4 h (by simp [h0]))
      · exact Ev.ifn h0 (j2 _ h4 h (by simp [h0]))
    · refine Ev.ifn (fun k => h (ht.1 k)) ?_
      have fa : fx a ≠ 2047 := fk_fin h4.1 (fun k => h (.inl k))
      have fb : fx b ≠ 2047 := fk_fin h4.2 (fun k => h (.inr k))
      refine Ev.bind (parts_fin ha fa) (Ev.bind (parts_fin hb fb) ?_)
      have a1 := pm_range a
      have a2 := pe_range a
      have b1 := pm_range b
      have b2 := pe_range b
      dsimp only
      rw [w64_id (n := pe a + pe b) (by omega) (by omega)]
      rw [hF, if_neg (show ¬ (fk a = 4 ∨ fk b = 4 ∨ (fk a = 3 ∧ fk b = 0) ∨ (fk a = 0 ∧ fk b = 3)) by omega), if_neg h]
      exact mul_word neg a1.1 a1.2 b1.1 b1.2 (by omega) (by omega)
  have j0 : ∀ t : Bool, (t = true ↔ (fk a = 4 ∨ fk b = 4)) → Ev (fun k => fprod_Mul.j0 k a b (fk a) (fk b) neg t) (fmul a b) := by
    intro t ht
    refine Ev.step (fun k => fprod_Mul.j0.eq_2 ..) ?_
    by_cases h : fk a = 4 ∨ fk b = 4
    · refine Ev.ifp (ht.2 h) (Ev.bindc fbits_Nan_c (Ev.same ?_))
      have hc : fk a = 4 ∨ fk b = 4 ∨ (fk a = 3 ∧ fk b = 0) ∨ (fk a = 0 ∧ fk b = 3) := by omega
      rw [hF, if_pos hc]
    · refine Ev.ifn (fun k => h (ht.1 k)) ?_
      by_cases h3 : fk a = 3
      · exact Ev.ifp h3 (j1 _ (by omega) (by simp [h3]))
      · exact Ev.ifn h3 (j1 _ (by omega) (by simp [h3]))
  by_cases h : fk a = 4
  · exact Ev.ifp h (j0 _ (by simp [h]))
  · exact Ev.ifn h (j0 _ (by simp [h]))

/-! ### Quotients -/
theorem fprod_signed_c (neg : Bool) : Ev (fun k => fprod_signed.f k neg) (sgn neg 0) := by
  refine Ev.bind (fbits_Make_c neg (m := 0) (e := 0) (by unfold U; omega) (by omega) (by omega)) (Ev.same ?_)
  rw [Mk_zero]
theorem top_word {m : Int} (h0 : 0 < m) (h1 : m < 9007199254740992) : 4611686018427387904 ≤ m * 2 ^ (63 - bl m).toNat ∧ m * 2 ^ (63 - bl m).toNat < 9223372036854775808 ∧ 9223372036854775808 ≤ m * 2 ^ (64 - bl m).toNat ∧ m * 2 ^ (64 - bl m).toNat < 18446744073709551616 := by
  have b2 : bl m ≤ 53 := bl_le_of (n := 53) (by omega)
  have t := bl_top h0 (by omega)
  have e : m * 2 ^ (64 - bl m).toNat = m * 2 ^ (63 - bl m).toNat * 2 := by
    rw [show (64 - bl m).toNat = (63 - bl m).toNat + 1 by omega, Int.pow_succ, Int.mul_assoc]
  rw [e] at t ⊢
  omega
theorem fprod_Div_c {a b : Int} (ha : U a) (hb : U b) : Ev (fun k => fprod_Div.f k a b) (fdiv a b) := by
  refine Ev.bindc (fbits_Kind_c ha) (Ev.bindc (fbits_Kind_c hb) (Ev.bindc (fbits_Neg_c ha) (Ev.bindc (fbits_Neg_c hb) ?_)))
  have eb : (!(fs a == fs b)) = (fs a != fs b) := rfl
  rw [eb]
  generalize hneg : (fs a != fs b) = neg
  have hF : fdiv a b = if fk a = 4 ∨ fk b = 4 ∨ (fk a = 3 ∧ fk b = 3) ∨ (fk a = 0 ∧ fk b = 0) then NAN else if fk a = 3 ∨ fk b = 0 then sgn neg INF else if fk a = 0 ∨ fk b = 3 then sgn neg 0 else sgn neg (qd (pm a) (pe a) (pm b) (pe b)) := by
    unfold fdiv
    rw [hneg]
  have j1 : ∀ t : Bool, ¬ (fk a = 4 ∨ fk b = 4 ∨ (fk a = 3 ∧ fk b = 3) ∨ (fk a = 0 ∧ fk b = 0)) → (t = true ↔ (fk a = 3 ∨ fk b = 0)) → Ev (fun k => fprod_Div.j1 k a b (fk a) (fk b) neg t) (fdiv a b) := by
    intro t h4 ht
    refine Ev.step (fun k => fprod_Div.j1.eq_2 ..) ?_
    rw [hF, if_neg h4]
    by_cases h : fk a = 3 ∨ fk b = 0
    · rw [if_pos h]
      exact Ev.ifp (ht.2 h) (Ev.bindc (fbits_Inf_c neg) (Ev.same rfl))
    · rw [if_neg h]
      refine Ev.ifn (fun k => h (ht.1 k)) ?_
      by_cases h1 : fk a = 0
      · rw [if_pos (.inl h1)]
        exact Ev.ifp h1 (Ev.bind (fprod_signed_c neg) (Ev.same rfl))
      · refine Ev.ifn h1 ?_
        by_cases h2 : fk b = 3
        · rw [if_pos (.inr h2)]
          exact Ev.ifp h2 (Ev.bind (fprod_signed_c neg) (Ev.same rfl))
        · rw [if_neg (by omega)]
          have fa : fx a ≠ 2047 := fk_fin (by omega) (by omega)
          have fb : fx b ≠ 2047 := fk_fin (by omega) (by omega)
          have za : pm a ≠ 0 := fun k => h1 ((fk_eq a).2.2.2.1.2 ⟨fa, k⟩)
          have zb : pm b ≠ 0 := fun k => h (.inr ((fk_eq b).2.2.2.1.2 ⟨fb, k⟩))
          refine Ev.ifn h2 (Ev.bind (parts_fin ha fa) (Ev.bind (parts_fin hb fb) ?_))
          have a1 := pm_range a
          have a2 := pe_range a
          have b1 := pm_range b
          have b2 := pe_range b
          have na := bl_nonneg (pm a)
          have nb := bl_nonneg (pm b)
          have ba : bl (pm a) ≤ 53 := bl_le_of (n := 53) (by omega)
          have bb : bl (pm b) ≤ 53 := bl_le_of (n := 53) (by omega)
          have ta := top_word (m := pm a) (by omega) a1.2
          have tb := top_word (m := pm b) (by omega) b1.2
          have a3 : -1074 ≤ pe a ∧ pe a ≤ 972 := ⟨a2.1, a2.2.1⟩
          have b3 : -1074 ≤ pe b ∧ pe b ≤ 972 := ⟨b2.1, b2.2.1⟩
          dsimp only
          refine Ev.bind (limb_Len_c (x := pm a) (by unfold U; omega)) (Ev.bind (limb_Len_c (x := pm b) (by unfold U; omega)) ?_)
          clear a2 b2 hF h4 ht h h1 h2 fa fb
          unfold qd
          generalize pm a = m at *
          generalize pm b = n at *
          generalize pe a = e at *
          generalize pe b = f at *
          rw [w64_id (n := 63 - bl m) (by omega) (by omega), w64_id (n := 64 - bl n) (by omega) (by omega)]
          refine Ev.ifp (by omega) (Ev.ifp (by omega) ?_)
          rw [shl_u _ _ (by omega), shl_u _ _ (by omega), Int.emod_eq_of_lt (by omega) (by omega), Int.emod_eq_of_lt (by omega) (by omega)]
          rw [w64_id (n := e - (63 - bl m)) (by omega) (by omega), w64_id (n := e - (63 - bl m) - f) (by omega) (by omega), w64_id (n := e - (63 - bl m) - f + (64 - bl n)) (by omega) (by omega), w64_id (n := e - (63 - bl m) - f + (64 - bl n) - 64) (by omega) (by omega)]
          have eE : e - (63 - bl m) - f + (64 - bl n) - 64 = e - f + bl m - bl n - 63 := by omega
          have eE2 : e - f + bl m - bl n - 64 = e - f + bl m - bl n - 63 - 1 := by omega
          have hE : -5000 ≤ e - f + bl m - bl n - 63 ∧ e - f + bl m - bl n - 63 ≤ 5000 := by omega
          rw [eE, eE2]
          generalize e - f + bl m - bl n - 63 = E at *
          generalize m * 2 ^ (63 - bl m).toNat = M at *
          generalize n * 2 ^ (64 - bl n).toNat = N at *
          have D := limb_Div_c (hi := M) (lo := 0) (d := N) (by omega) (by omega) (by omega) (by unfold U; omega)
          rw [Int.add_zero] at D
          have q0 : 4611686018427387904 ≤ M * 18446744073709551616 / N := by rw [Int.le_ediv_iff_mul_le (by omega)]; omega
          have q1 : M * 18446744073709551616 / N < 18446744073709551616 := by rw [Int.ediv_lt_iff_lt_mul (by omega)]; omega
          refine Ev.bind D ?_
          dsimp only
          generalize M * 18446744073709551616 / N = q at *
          generalize M * 18446744073709551616 % N = r at *
          by_cases hr : r = 0
          · rw [if_pos hr]
            refine Ev.ifp hr (Ev.bind (fround_Word_c (e := E) neg (m := q) (by unfold U; omega)) (Ev.same ?_))
            rw [ce_id (by omega) (by omega)]
          · rw [if_neg hr]
            refine Ev.ifn hr ?_
            rw [or_one (by unfold U; omega)]
            refine Ev.bind (fround_Word_c (e := E) neg (m := q / 2 * 2 + 1) (by unfold U; omega)) (Ev.same ?_)
            rw [ce_id (by omega) (by omega), qd_code q0]
  have j0 : ∀ t : Bool, (t = true ↔ (fk a = 4 ∨ fk b = 4 ∨ (fk a = 3 ∧ fk b = 3) ∨ (fk a = 0 ∧ fk b = 0))) → Ev (fun k => fprod_Div.j0 k a b (fk a) (fk b) neg t) (fdiv a b) := by
    intro t ht
    refine Ev.step (fun k => fprod_Div.j0.eq_2 ..) ?_
    by_cases h : fk a = 4 ∨ fk b = 4 ∨ (fk a = 3 ∧ fk b = 3) ∨ (fk a = 0 ∧ fk b = 0)
    · refine Ev.ifp (ht.2 h) (Ev.bindc fbits_Nan_c (Ev.same ?_))
      rw [hF, if_pos h]
    · refine Ev.ifn (fun k => h (ht.1 k)) ?_
      by_cases h3 : fk a = 3
      · exact Ev.ifp h3 (j1 _ h (by simp [h3]))
      · exact Ev.ifn h3 (j1 _ h (by simp [h3]))
  by_cases h : fk a = 4
  · exact Ev.ifp h (j0 _ (by simp [h]))
  · refine Ev.ifn h ?_
    by_cases h2 : fk b = 4
    · exact Ev.ifp h2 (j0 _ (by simp [h2]))
    · refine Ev.ifn h2 ?_
      by_cases h3 : fk a = fk b
      · refine Ev.ifp h3 ?_
        by_cases h5 : fk a = 3
        · exact Ev.ifp h5 (j0 _ (by simp; omega))
        · exact Ev.ifn h5 (j0 _ (by simp; omega))
      · exact Ev.ifn h3 (j0 _ (by simp; omega))

/-! ### Roots -/
end Go.Proofs.Ytjocbnjpjihpnaa.M
end
section
namespace Go.Proofs.Ytjocbnjpjihpnaa.M
open Go.RowKit Go.Proofs.Ytjocbnjpjihpnaa.P Go.Proofs.YtjocbnjpjihpnaaW.PrintWords Go.Proofs.YtjocbnjpjihpnaaW.PrintLast Go.Proofs.YtjocbnjpjihpnaaW.PrintMore
set_option linter.unusedVariables false

theorem ref12_Mul_c {a b : Int} (ha : U a) (hb : U b) : Ev (fun k => gradineref12_Mul.f k a b) (fmul a b) := by
  refine Ev.bindc (ref09_Kind_c ha) (Ev.bindc (ref09_Kind_c hb) (Ev.bindc (ref09_Neg_c ha) (Ev.bindc (ref09_Neg_c hb) ?_)))
  have eb : (!(fs a == fs b)) = (fs a != fs b) := rfl
  rw [eb]
  generalize hneg : (fs a != fs b) = neg
  have hF : fmul a b = if fk a = 4 ∨ fk b = 4 ∨ (fk a = 3 ∧ fk b = 0) ∨ (fk a = 0 ∧ fk b = 3) then NAN else if fk a = 3 ∨ fk b = 3 then sgn neg INF else sgn neg (Rd (pm a * pm b) (pe a + pe b)) := by
    unfold fmul
    rw [hneg]
  have j1 : ∀ t : Bool, ¬ (fk a = 4 ∨ fk b = 4 ∨ (fk a = 3 ∧ fk b = 0) ∨ (fk a = 0 ∧ fk b = 3)) → (t = true ↔ (fk a = 3 ∨ fk b = 3)) → Ev (fun k => gradineref12_Mul.j1 k a b neg t) (fmul a b) := by
    intro t h4 ht
    refine Ev.step (fun k => gradineref12_Mul.j1.eq_2 ..) ?_
    rw [hF, if_neg h4]
    by_cases h : fk a = 3 ∨ fk b = 3
    · rw [if_pos h]
      exact Ev.ifp (ht.2 h) (Ev.bindc (ref09_Inf_c neg) (Ev.same rfl))
    · rw [if_neg h]
      refine Ev.ifn (fun k => h (ht.1 k)) (Ev.bindc (ref09_Parts_c ha) (Ev.bindc (ref09_Parts_c hb) ?_))
      have a1 := pm_range a
      have a2 := pe_range a
      have b1 := pm_range b
      have b2 := pe_range b
      have a3 : -1074 ≤ pe a ∧ pe a ≤ 972 := ⟨a2.1, a2.2.1⟩
      have b3 : -1074 ≤ pe b ∧ pe b ≤ 972 := ⟨b2.1, b2.2.1⟩
      clear a2 b2 hF h4 ht h
      dsimp only
      generalize pm a = m at *
      generalize pm b = n at *
      generalize pe a = e at *
      generalize pe b = f at *
      have M := ref03_Mul_c (a := [m]) (b := [n]) ⟨Ws_one (by unfold U; omega), by simp⟩ ⟨Ws_one (by unfold U; omega), by simp⟩ (by simp) (by simp)
      rw [nv_one, nv_one] at M
      have hP0 : 0 ≤ m * n := Int.mul_nonneg a1.1 b1.1
      have bP := bl_mul a1.1 b1.1
      have ba : bl m ≤ 53 := bl_le_of (n := 53) (by omega)
      have bb : bl n ≤ 53 := bl_le_of (n := 53) (by omega)
      have lP := dg_len_bl (m * n)
      refine Ev.bind M ?_
      rw [w64_id (n := e + f) (by omega) (by omega)]
      have O := ref10_Of_c neg (l := dg (m * n)) (Wl_dg (by omega)) (by omega) (e := e + f) (by omega) (by omega)
      rw [nv_dg hP0] at O
      exact Ev.bind O (Ev.same rfl)
  have j0 : ∀ t : Bool, (t = true ↔ (fk a = 4 ∨ fk b = 4 ∨ (fk a = 3 ∧ fk b = 0) ∨ (fk a = 0 ∧ fk b = 3))) → Ev (fun k => gradineref12_Mul.j0 k a b (fk a) (fk b) neg t) (fmul a b) := by
    intro t ht
    refine Ev.step (fun k => gradineref12_Mul.j0.eq_2 ..) ?_
    by_cases h : fk a = 4 ∨ fk b = 4 ∨ (fk a = 3 ∧ fk b = 0) ∨ (fk a = 0 ∧ fk b = 3)
    · refine Ev.ifp (ht.2 h) (Ev.bindc ref09_Nan_c (Ev.same ?_))
      rw [hF, if_pos h]
    · refine Ev.ifn (fun k => h (ht.1 k)) ?_
      by_cases h3 : fk a = 3
      · exact Ev.ifp h3 (j1 _ h (by simp [h3]))
      · exact Ev.ifn h3 (j1 _ h (by simp [h3]))
  by_cases h : fk a = 4
  · exact Ev.ifp h (j0 _ (by simp [h]))
  · refine Ev.ifn h ?_
    by_cases h2 : fk b = 4
    · exact Ev.ifp h2 (j0 _ (by simp [h2]))
    · refine Ev.ifn h2 ?_
      by_cases h3 : fk a = 3
      · refine Ev.ifp h3 ?_
        by_cases h5 : fk b = 0
        · exact Ev.ifp h5 (j0 _ (by simp [h3, h5]))
        · refine Ev.ifn h5 (Ev.ifn (by omega) (j0 _ (by simp; omega)))
      · refine Ev.ifn h3 ?_
        by_cases h5 : fk a = 0
        · exact Ev.ifp h5 (j0 _ (by simp; omega))
        · exact Ev.ifn h5 (j0 _ (by simp; omega))

/-! ### Quotients -/
theorem ref12_Div_l1 {m n E f : Int} (neg : Bool) (hm0 : 4503599627370496 ≤ m) (hm1 : m < 9007199254740992) (d : Nat) : ∀ n f : Int, 0 < n → bl n + d = 53 → -2000 ≤ E → E ≤ 2000 → -2000 ≤ f - d → f ≤ 2000 →
    Ev (fun k => gradineref12_Div.l1 k neg m E n f) (sgn neg (if m * 1024 * 18446744073709551616 % (n * 2 ^ (64 - bl n).toNat) = 0 then Rd (m * 1024 * 18446744073709551616 / (n * 2 ^ (64 - bl n).toNat)) (E - (f - d) - 63) else Rd (2 * (m * 1024 * 18446744073709551616 / (n * 2 ^ (64 - bl n).toNat)) + 1) (E - (f - d) - 64))) := by
  induction d with
  | zero =>
    intro n f hn hb h1 h2 h3 h4
    have l1 := bl_lt n
    have l2 := bl_le hn
    rw [show bl n = 53 by omega] at l1 l2 ⊢
    rw [show (53 : Int).toNat = 53 from rfl] at l1
    rw [show ((53 : Int) - 1).toNat = 52 from rfl] at l2
    rw [show ((64 : Int) - 53).toNat = 11 from rfl, show (2 : Int) ^ 11 = 2048 from rfl, show f - ((0 : Nat) : Int) = f by omega]
    refine Ev.step (fun k => gradineref12_Div.l1.eq_2 ..) (Ev.ifn (by omega) ?_)
    rw [wu_id (n := m * 1024) (by omega) (by omega), wu_id (n := n * 2048) (by omega) (by omega)]
    have D := ref01_Div_c (hi := m * 1024) (lo := 0) (d := n * 2048) (by omega) (by omega) (by omega) (by unfold U; omega)
    rw [Int.add_zero] at D
    have q0 : 4611686018427387904 ≤ m * 1024 * 18446744073709551616 / (n * 2048) := by rw [Int.le_ediv_iff_mul_le (by omega)]; omega
    have q1 : m * 1024 * 18446744073709551616 / (n * 2048) < 18446744073709551616 := by rw [Int.ediv_lt_iff_lt_mul (by omega)]; omega
    have r0 := Int.emod_nonneg (m * 1024 * 18446744073709551616) (show n * 2048 ≠ 0 by omega)
    refine Ev.bind D ?_
    dsimp only
    generalize m * 1024 * 18446744073709551616 / (n * 2048) = q at *
    generalize m * 1024 * 18446744073709551616 % (n * 2048) = r at *
    rw [w64_id (n := E - f) (by omega) (by omega), w64_id (n := E - f - 63) (by omega) (by omega)]
    have M := ref10_More_c neg (l := [q]) ⟨Ws_one (by unfold U; omega), by simp⟩ (by simp) (E - f - 63) (decide (r > 0))
    rw [nv_one, ce_id (by omega) (by omega)] at M
    refine Ev.bind M (Ev.same ?_)
    by_cases hr : r = 0
    · rw [if_pos hr, decide_eq_false (by omega)]
      rfl
    · rw [if_neg hr, decide_eq_true (by omega)]
      rw [show E - f - 64 = E - f - 63 - 1 by omega]
      rfl
  | succ d ih =>
    intro n f hn hb h1 h2 h3 h4
    have l1 := bl_lt n
    have hlt : n < 2 ^ 52 := by
      have := pow_le_pow (a := (bl n).toNat) (b := 52) (by omega)
      omega
    have hs := bl_shl hn 1
    rw [Int.pow_one] at hs
    refine Ev.step (fun k => gradineref12_Div.l1.eq_2 ..) (Ev.ifp (by omega) ?_)
    rw [wu_id (n := n * 2) (by omega) (by omega), w64_id (n := f - 1) (by omega) (by omega)]
    have := ih (n * 2) (f - 1) (by omega) (by omega) h1 h2 (by omega) (by omega)
    have e1 : n * 2 * 2 ^ (64 - bl (n * 2)).toNat = n * 2 ^ (64 - bl n).toNat := by
      rw [hs, show (64 - bl n).toNat = 1 + (64 - (bl n + ((1 : Nat) : Int))).toNat by omega, Int.pow_add, Int.mul_assoc]
      rfl
    rw [e1, show f - 1 - (d : Int) = f - ((d + 1 : Nat) : Int) by omega] at this
    exact this
theorem ref12_Div_l0 {n f : Int} (neg : Bool) (hn0 : 0 < n) (hn1 : n < 9007199254740992) (hf0 : -1074 ≤ f) (hf1 : f ≤ 1000) (d : Nat) : ∀ m e : Int, 0 < m → bl m + d = 53 → -2000 ≤ e - d → e ≤ 1000 →
    Ev (fun k => gradineref12_Div.l0 k neg m e n f) (sgn neg (qd m e n f)) := by
  have bn1 := bl_pos hn0
  have bn : bl n ≤ 53 := bl_le_of (n := 53) (by omega)
  induction d with
  | zero =>
    intro m e hm hb h1 h2
    have l1 := bl_lt m
    have l2 := bl_le hm
    rw [show bl m = 53 by omega] at l1 l2
    rw [show (53 : Int).toNat = 53 from rfl] at l1
    rw [show ((53 : Int) - 1).toNat = 52 from rfl] at l2
    refine Ev.step (fun k => gradineref12_Div.l0.eq_2 ..) (Ev.ifn (by omega) ?_)
    have L := ref12_Div_l1 (m := m) (n := n) (E := e) (f := f) neg (by omega) (by omega) (53 - bl n).toNat n f hn0 (by omega) (by omega) (by omega) (by omega) (by omega)
    refine L.eqr ?_
    unfold qd
    rw [show bl m = 53 by omega, show ((63 : Int) - 53).toNat = 10 from rfl, show (2 : Int) ^ 10 = 1024 from rfl]
    rw [show e - (f - ((53 - bl n).toNat : Int)) - 63 = e - f + 53 - bl n - 63 by omega, show e - (f - ((53 - bl n).toNat : Int)) - 64 = e - f + 53 - bl n - 64 by omega]
  | succ d ih =>
    intro m e hm hb h1 h2
    have l1 := bl_lt m
    have hlt : m < 2 ^ 52 := by
      have := pow_le_pow (a := (bl m).toNat) (b := 52) (by omega)
      omega
    have hs := bl_shl hm 1
    rw [Int.pow_one] at hs
    refine Ev.step (fun k => gradineref12_Div.l0.eq_2 ..) (Ev.ifp (by omega) ?_)
    rw [wu_id (n := m * 2) (by omega) (by omega), w64_id (n := e - 1) (by omega) (by omega)]
    refine (ih (m * 2) (e - 1) (by omega) (by omega) (by omega) (by omega)).eqr ?_
    unfold qd
    have e1 : m * 2 * 2 ^ (63 - bl (m * 2)).toNat = m * 2 ^ (63 - bl m).toNat := by
      rw [hs, show (63 - bl m).toNat = 1 + (63 - (bl m + ((1 : Nat) : Int))).toNat by omega, Int.pow_add, Int.mul_assoc]
      rfl
    rw [e1, show e - 1 - f + bl (m * 2) - bl n - 63 = e - f + bl m - bl n - 63 by omega, show e - 1 - f + bl (m * 2) - bl n - 64 = e - f + bl m - bl n - 64 by omega]
theorem ref12_Div_c {a b : Int} (ha : U a) (hb : U b) : Ev (fun k => gradineref12_Div.f k a b) (fdiv a b) := by
  refine Ev.bindc (ref09_Kind_c ha) (Ev.bindc (ref09_Kind_c hb) (Ev.bindc (ref09_Neg_c ha) (Ev.bindc (ref09_Neg_c hb) ?_)))
  have eb : (!(fs a == fs b)) = (fs a != fs b) := rfl
  rw [eb]
  generalize hneg : (fs a != fs b) = neg
  have hF : fdiv a b = if fk a = 4 ∨ fk b = 4 ∨ (fk a = 3 ∧ fk b = 3) ∨ (fk a = 0 ∧ fk b = 0) then NAN else if fk a = 3 ∨ fk b = 0 then sgn neg INF else if fk a = 0 ∨ fk b = 3 then sgn neg 0 else sgn neg (qd (pm a) (pe a) (pm b) (pe b)) := by
    unfold fdiv
    rw [hneg]
  have j2 : ∀ t : Bool, ¬ (fk a = 4 ∨ fk b = 4 ∨ (fk a = 3 ∧ fk b = 3) ∨ (fk a = 0 ∧ fk b = 0)) → ¬ (fk a = 3 ∨ fk b = 0) → (t = true ↔ (fk a = 0 ∨ fk b = 3)) → Ev (fun k => gradineref12_Div.j2 k a b neg t) (fdiv a b) := by
    intro t h4 h3 ht
    refine Ev.step (fun k => gradineref12_Div.j2.eq_2 ..) ?_
    rw [hF, if_neg h4, if_neg h3]
    by_cases h : fk a = 0 ∨ fk b = 3
    · rw [if_pos h]
      exact Ev.ifp (ht.2 h) (Ev.bindc (ref09_Signed_c neg (by omega) (by omega)) (Ev.same rfl))
    · rw [if_neg h]
      refine Ev.ifn (fun k => h (ht.1 k)) (Ev.bindc (ref09_Parts_c ha) (Ev.bindc (ref09_Parts_c hb) ?_))
      have fa : fx a ≠ 2047 := fk_fin (by omega) (by omega)
      have fb : fx b ≠ 2047 := fk_fin (by omega) (by omega)
      have za : pm a ≠ 0 := fun k => h (.inl ((fk_eq a).2.2.2.1.2 ⟨fa, k⟩))
      have zb : pm b ≠ 0 := fun k => h3 (.inr ((fk_eq b).2.2.2.1.2 ⟨fb, k⟩))
      have a1 := pm_range a
      have a2 := pe_range a
      have b1 := pm_range b
      have b2 := pe_range b
      have a3 : -1074 ≤ pe a ∧ pe a ≤ 972 := ⟨a2.1, a2.2.1⟩
      have b3 : -1074 ≤ pe b ∧ pe b ≤ 972 := ⟨b2.1, b2.2.1⟩
      have ba : bl (pm a) ≤ 53 := bl_le_of (n := 53) (by omega)
      have ba1 := bl_pos (x := pm a) (by omega)
      clear a2 b2
      exact ref12_Div_l0 neg (by omega) b1.2 (by omega) (by omega) (53 - bl (pm a)).toNat (pm a) (pe a) (by omega) (by omega) (by omega) (by omega)
  have j1 : ∀ t : Bool, ¬ (fk a = 4 ∨ fk b = 4 ∨ (fk a = 3 ∧ fk b = 3) ∨ (fk a = 0 ∧ fk b = 0)) → (t = true ↔ (fk a = 3 ∨ fk b = 0)) → Ev (fun k => gradineref12_Div.j1 k a b (fk a) (fk b) neg t) (fdiv a b) := by
    intro t h4 ht
    refine Ev.step (fun k => gradineref12_Div.j1.eq_2 ..) ?_
    by_cases h : fk a = 3 ∨ fk b = 0
    · refine Ev.ifp (ht.2 h) (Ev.bindc (ref09_Inf_c neg) (Ev.same ?_))
      rw [hF, if_neg h4, if_pos h]
    · refine Ev.ifn (fun k => h (ht.1 k)) ?_
      by_cases h1 : fk a = 0
      · exact Ev.ifp h1 (j2 _ h4 h (by simp [h1]))
      · exact Ev.ifn h1 (j2 _ h4 h (by simp [h1]))
  have j0 : ∀ t : Bool, (t = true ↔ (fk a = 4 ∨ fk b = 4 ∨ (fk a = 3 ∧ fk b = 3) ∨ (fk a = 0 ∧ fk b = 0))) → Ev (fun k => gradineref12_Div.j0 k a b (fk a) (fk b) neg t) (fdiv a b) := by
    intro t ht
    refine Ev.step (fun k => gradineref12_Div.j0.eq_2 ..) ?_
    by_cases h : fk a = 4 ∨ fk b = 4 ∨ (fk a = 3 ∧ fk b = 3) ∨ (fk a = 0 ∧ fk b = 0)
    · refine Ev.ifp (ht.2 h) (Ev.bindc ref09_Nan_c (Ev.same ?_))
      rw [hF, if_pos h]
    · refine Ev.ifn (fun k => h (ht.1 k)) ?_
      by_cases h3 : fk a = 3
      · exact Ev.ifp h3 (j1 _ h (by simp [h3]))
      · exact Ev.ifn h3 (j1 _ h (by simp [h3]))
  by_cases h : fk a = 4
  · exact Ev.ifp h (j0 _ (by simp [h]))
  · refine Ev.ifn h ?_
    by_cases h2 : fk b = 4
    · exact Ev.ifp h2 (j0 _ (by simp [h2]))
    · refine Ev.ifn h2 ?_
      by_cases h3 : fk a = 3
      · refine Ev.ifp h3 ?_
        by_cases h5 : fk b = 3
        · exact Ev.ifp h5 (j0 _ (by simp [h3, h5]))
        · refine Ev.ifn h5 (Ev.ifn (by omega) (j0 _ (by simp; omega)))
      · refine Ev.ifn h3 ?_
        by_cases h5 : fk a = 0
        · exact Ev.ifp h5 (j0 _ (by simp; omega))
        · exact Ev.ifn h5 (j0 _ (by simp; omega))
end Go.Proofs.Ytjocbnjpjihpnaa.M
end
section
namespace Go.Proofs.Ytjocbnjpjihpnaa.M
open Go.RowKit Go.Proofs.Ytjocbnjpjihpnaa.P Go.Proofs.YtjocbnjpjihpnaaW.PrintWords Go.Proofs.YtjocbnjpjihpnaaW.PrintLast Go.Proofs.YtjocbnjpjihpnaaW.PrintMore
set_option linter.unusedVariables false

theorem fcmp_key_c {b : Int} (h : U b) : fcmp_key.f b = some (fkey b) := by
  unfold fcmp_key.f
  rw [fbits_Neg_c h, wu]
  unfold U at h
  show (if fs b = true then some (wrap64 (-(wrap64 (b * 2 % 18446744073709551616 / 2)))) else some (wrap64 (b * 2 % 18446744073709551616 / 2))) = some (fkey b)
  unfold fkey fs
  by_cases hb : b ≥ 9223372036854775808
  · rw [decide_eq_true hb, if_pos rfl, if_pos rfl, w64_id (n := b * 2 % 18446744073709551616 / 2) (by omega) (by omega), w64_id (by omega) (by omega)]
    congr 1
    omega
  · rw [decide_eq_false hb, if_neg (by decide), if_neg (by decide), w64_id (by omega) (by omega)]
    congr 1
    omega
theorem fcmp_known_c {a b : Int} (ha : U a) (hb : U b) : fcmp_known.f a b = some (decide (fk a ≠ 4 ∧ fk b ≠ 4)) := by
  unfold fcmp_known.f
  rw [fbits_Kind_c ha, fbits_Kind_c hb]
  show (if fk a = 4 then some false else some (fk b != 4)) = _
  by_cases h : fk a = 4
  · rw [if_pos h, decide_eq_false (fun k => k.1 h)]
  · rw [if_neg h]
    congr 1
    by_cases h2 : fk b = 4
    · rw [decide_eq_false (fun k => k.2 h2), bne_eq_false_iff_eq]; exact h2
    · rw [decide_eq_true ⟨h, h2⟩, bne_iff_ne]; exact h2
theorem fcmp_Less_c {a b : Int} (ha : U a) (hb : U b) : fcmp_Less.f a b = some (less a b) := by
  unfold fcmp_Less.f less
  rw [fcmp_known_c ha hb, fcmp_key_c ha, fcmp_key_c hb]
  show (if decide (fk a ≠ 4 ∧ fk b ≠ 4) = true then some (decide (fkey a < fkey b)) else some false) = _
  by_cases h : fk a ≠ 4 ∧ fk b ≠ 4
  · rw [decide_eq_true h, if_pos rfl]
    congr 1
    simp [h.1, h.2]
  · rw [decide_eq_false h, if_neg (by decide), decide_eq_false (fun k => h ⟨k.1, k.2.1⟩)]
theorem near_no {b : Int} (h : fx b = 2047 ∨ bl (pm b) + pe b > 62) : near b = (0, false) := by unfold near; rw [if_pos h]
theorem near_yes {b : Int} (h : fx b ≠ 2047) (h2 : bl (pm b) + pe b ≤ 62) : near b = (if fs b then -(ru (pm b) (pe b) 0) else ru (pm b) (pe b) 0, true) := by
  unfold near
  rw [if_neg (by omega)]
theorem fcmp_Near_j1 {n : Int} (neg t : Bool) (h0 : 0 ≤ n) (h1 : n ≤ 4611686018427387904) : Ev (fun k => fcmp_Near.j1 k neg n t) (if neg then -(if t then n + 1 else n) else (if t then n + 1 else n), true) := by
  refine Ev.step (fun k => fcmp_Near.j1.eq_2 ..) ?_
  cases t
  · refine Ev.ifn (by decide) ?_
    cases neg
    · exact Ev.ifn (by decide) (Ev.same rfl)
    · refine Ev.ifp rfl (Ev.same ?_)
      rw [w64_id (by omega) (by omega)]
      rfl
  · refine Ev.ifp rfl ?_
    cases neg
    · refine Ev.ifn (by decide) (Ev.same ?_)
      rw [w64_id (by omega) (by omega)]
      rfl
    · refine Ev.ifp rfl (Ev.same ?_)
      rw [w64_id (n := n + 1) (by omega) (by omega), w64_id (by omega) (by omega)]
      rfl
theorem fcmp_Near_c {b : Int} (h : U b) : Ev (fun k => fcmp_Near.f k b) (near b) := by
  have hP := fbits_Parts_c h
  have a1 := pm_range b
  have a2 := pe_range b
  by_cases hx : fx b = 2047
  · rw [if_pos hx] at hP
    refine Ev.bind hP (Ev.ifn (by decide) (Ev.step (fun k => fcmp_Near.j0.eq_2 ..) (Ev.ifp rfl (Ev.same ?_))))
    rw [near_no (.inl hx)]
  · rw [if_neg hx] at hP
    refine Ev.bind hP (Ev.ifp rfl (Ev.bind (limb_Len_c (x := pm b) (by unfold U; omega)) ?_))
    dsimp only
    have b0 := bl_nonneg (pm b)
    have b1 : bl (pm b) ≤ 53 := bl_le_of (n := 53) (by omega)
    have a3 : -1074 ≤ pe b ∧ pe b ≤ 972 := ⟨a2.1, a2.2.1⟩
    have a4 := a2.2.2.2
    rw [w64_id (n := bl (pm b) + pe b) (by omega) (by omega)]
    clear a2 hP
    by_cases h1 : bl (pm b) + pe b > 62
    · refine Ev.step (fun k => fcmp_Near.j0.eq_2 ..) (Ev.ifp (decide_eq_true h1) (Ev.same ?_))
      rw [near_no (.inr h1)]
    · rw [near_yes hx (by omega)]
      refine Ev.step (fun k => fcmp_Near.j0.eq_2 ..) (Ev.ifn (by rw [decide_eq_false h1]; decide) ?_)
      have l1 := bl_lt (pm b)
      generalize pm b = m at *
      generalize pe b = e at *
      generalize fs b = neg
      by_cases h2 : e ≥ 0
      · refine Ev.ifp h2 (Ev.ifp h2 ?_)
        have hlt : m * 2 ^ e.toNat < 2 ^ 62 := by
          have hp := pow_pos e.toNat
          have := Int.mul_lt_mul_of_pos_right l1 hp
          rw [← Int.pow_add] at this
          have := pow_le_pow (a := (bl m).toNat + e.toNat) (b := 62) (by omega)
          omega
        have hge : 0 ≤ m * 2 ^ e.toNat := Int.mul_nonneg a1.1 (by have := pow_pos e.toNat; omega)
        have er : ru m e 0 = m * 2 ^ e.toNat := by
          unfold ru
          rw [show (0 - e).toNat = 0 by omega, rnd_zero, show e - 0 = e by omega]
        rw [er, shl_u _ _ (by omega), Int.emod_eq_of_lt hge (by omega), w64_id (n := m * 2 ^ e.toNat) (by omega) (by omega), w64_id (by omega) (by omega)]
        cases neg
        · exact Ev.ifn (by decide) (Ev.same rfl)
        · exact Ev.ifp rfl (Ev.same rfl)
      · refine Ev.ifn h2 ?_
        by_cases h3 : e > -64
        · refine Ev.ifp h3 ?_
          obtain ⟨d, hd⟩ : ∃ d : Nat, -e = ((d + 1 : Nat) : Int) := ⟨(-e).toNat - 1, by omega⟩
          have hd63 : d + 1 ≤ 63 := by omega
          have er : ru m e 0 = rnd m (d + 1) := by
            unfold ru
            rw [show (0 - e).toNat = d + 1 by omega, show (e - 0).toNat = 0 by omega, Int.pow_zero, Int.mul_one]
          rw [w64_id (n := -e) (by omega) (by omega), w64_id (n := 64 + e) (by omega) (by omega)]
          refine Ev.ifp (by omega) (Ev.ifp (by omega) ?_)
          have hp := pow_pos (d + 1)
          have q0 : 0 ≤ m / 2 ^ (d + 1) := Int.ediv_nonneg a1.1 (by omega)
          have q1 : m / 2 ^ (d + 1) ≤ m := Int.ediv_le_self _ a1.1
          have r0 := Int.emod_nonneg m (show (2 : Int) ^ (d + 1) ≠ 0 by omega)
          have r1 := Int.emod_lt_of_pos m hp
          have hH : (2 : Int) ^ (d + 1) = 2 * 2 ^ d := by rw [Int.pow_succ, Int.mul_comm]
          have hGH : (2 : Int) ^ (64 - (d + 1)) * 2 ^ d = 9223372036854775808 := by rw [← Int.pow_add, show 64 - (d + 1) + d = 63 by omega]; rfl
          rw [shr_u _ _ (by omega), shl_u _ _ (by omega), hd, Int.toNat_natCast, show (64 + e).toNat = 64 - (d + 1) by omega, mod_up' m (show 64 - (d + 1) ≤ 64 by omega), show 64 - (64 - (d + 1)) = d + 1 by omega, w64_id (n := m / 2 ^ (d + 1)) (by omega) (by omega), and_one_i64, er]
          have hG := pow_pos (64 - (d + 1))
          have J := fun t => fcmp_Near_j1 (n := m / 2 ^ (d + 1)) neg t q0 (by omega)
          rcases Int.lt_trichotomy (m % 2 ^ (d + 1)) (2 ^ d) with hc | hc | hc
          · have : 2 ^ (64 - (d + 1)) * (m % 2 ^ (d + 1)) < 9223372036854775808 := by rw [← hGH]; exact Int.mul_lt_mul_of_pos_left hc hG
            refine Ev.ifn (by omega) (Ev.ifn (by omega) ((J false).eqr ?_))
            have e1 : rnd m (d + 1) = m / 2 ^ (d + 1) := by
              unfold rnd
              rw [if_neg (by omega)]
            rw [e1]
            rfl
          · refine Ev.ifn (by rw [hc, hGH]; omega) (Ev.ifp (by rw [hc, hGH]) ((J _).eqr ?_))
            have e1 : rnd m (d + 1) = if (m / 2 ^ (d + 1) % 2 == 1) = true then m / 2 ^ (d + 1) + 1 else m / 2 ^ (d + 1) := by
              unfold rnd
              by_cases ho : m / 2 ^ (d + 1) % 2 = 1
              · rw [if_pos (.inr ⟨by omega, ho⟩), if_pos (by rw [ho]; rfl)]
              · rw [if_neg (by omega), if_neg (by rw [beq_iff_eq]; exact ho)]
            rw [e1]
          · have : 9223372036854775808 < 2 ^ (64 - (d + 1)) * (m % 2 ^ (d + 1)) := by rw [← hGH]; exact Int.mul_lt_mul_of_pos_left hc hG
            refine Ev.ifp (by omega) ((J true).eqr ?_)
            have e1 : rnd m (d + 1) = m / 2 ^ (d + 1) + 1 := by
              unfold rnd
              rw [if_pos (.inl (by omega))]
            rw [e1]
            rfl
        · refine Ev.ifn h3 ?_
          have er : ru m e 0 = 0 := by
            unfold ru
            rw [show (e - 0).toNat = 0 by omega, Int.pow_zero, Int.mul_one]
            have := pow_le_pow (a := 64) (b := (0 - e).toNat) (by omega)
            exact rnd_small a1.1 (by omega)
          rw [er]
          cases neg
          · exact Ev.ifn (by decide) (Ev.same rfl)
          · exact Ev.ifp rfl (Ev.same rfl)
theorem clamp_eq (k c : Int) (hc : 0 ≤ c) : mn (mx k (-c)) c = min (max k (-c)) c := by
  unfold mn mx
  split <;> split <;> omega
theorem fcmp_Scale_c {b k : Int} (h : U b) : Ev (fun r => fcmp_Scale.f r b k) (fscale b k) := by
  have hP := fbits_Parts_c h
  have a1 := pm_range b
  have a2 := pe_range b
  unfold fscale
  by_cases hx : fx b = 2047
  · rw [if_pos hx] at hP ⊢
    exact Ev.bind hP (Ev.ifn (by decide) (Ev.bindc (fbits_Clean_c h) (Ev.same rfl)))
  · rw [if_neg hx] at hP ⊢
    refine Ev.bind hP (Ev.ifp rfl ?_)
    dsimp only
    have a3 : -1074 ≤ pe b ∧ pe b ≤ 972 := ⟨a2.1, a2.2.1⟩
    clear a2
    rw [clamp_eq k 5000 (by omega), w64_id (by omega) (by omega)]
    refine Ev.bind (fround_Word_c (e := pe b + min (max k (-5000)) 5000) (fs b) (m := pm b) (by unfold U; omega)) (Ev.same ?_)
    rw [ce_id (by omega) (by omega)]
end Go.Proofs.Ytjocbnjpjihpnaa.M
end
section
namespace Go.Proofs.Ytjocbnjpjihpnaa.M
open Go.RowKit Go.Proofs.Ytjocbnjpjihpnaa.P Go.Proofs.YtjocbnjpjihpnaaW.PrintWords Go.Proofs.YtjocbnjpjihpnaaW.PrintLast Go.Proofs.YtjocbnjpjihpnaaW.PrintMore
set_option linter.unusedVariables false

theorem ref13_Less_c {a b : Int} (ha : U a) (hb : U b) : Ev (fun k => gradineref13_Less.f k a b) (less a b) := by
  have j0 : ∀ t : Bool, t = decide (fk a = 4 ∨ fk b = 4) → Ev (fun k => gradineref13_Less.j0 k a b t) (less a b) := fun t ht => by
    refine Ev.step (fun k => gradineref13_Less.j0.eq_2 ..) ?_
    by_cases h : fk a = 4 ∨ fk b = 4
    · rw [show less a b = false from decide_eq_false fun k => h.elim k.1 k.2.1]
      exact Ev.ifp (by rw [ht]; exact decide_eq_true h) (Ev.same rfl)
    · have hl : less a b = decide (fkey a < fkey b) := by
        unfold less
        refine decide_eq_decide.2 ⟨fun k => k.2.2, fun k => ⟨fun z => h (.inl z), fun z => h (.inr z), k⟩⟩
      rw [hl]
      refine Ev.ifn (by rw [ht, decide_eq_false h]; decide) (Ev.bindc (ref09_Neg_c ha) (Ev.bindc (ref09_Neg_c hb) ?_))
      unfold U at ha hb
      have sa : fs a = decide (a ≥ 9223372036854775808) := rfl
      have sb : fs b = decide (b ≥ 9223372036854775808) := rfl
      unfold fkey
      by_cases h1 : a ≥ 9223372036854775808
      · rw [sa, decide_eq_true h1]
        refine Ev.ifp rfl (Ev.step (fun k => gradineref13_Less.j1.eq_2 ..) ?_)
        by_cases h2 : b ≥ 9223372036854775808
        · rw [sb, decide_eq_true h2]
          refine Ev.ifp rfl (Ev.same ?_)
          simp only [if_true]
          congr 1
          exact decide_eq_decide.2 (by omega)
        · rw [sb, decide_eq_false h2]
          refine Ev.ifn (by decide) (Ev.ifp rfl ?_)
          simp only [if_true, Bool.false_eq_true, if_false]
          by_cases h3 : a = 9223372036854775808
          · refine Ev.ifp h3 (Ev.same ?_)
            congr 1
            rw [h3]
            by_cases h4 : b = 0
            · rw [h4]; rfl
            · rw [decide_eq_true (by omega)]
              simp [h4]
          · refine Ev.ifn h3 (Ev.same ?_)
            rw [decide_eq_true (by omega)]
      · rw [sa, decide_eq_false h1]
        refine Ev.ifn (by decide) (Ev.step (fun k => gradineref13_Less.j1.eq_2 ..) (Ev.ifn (by decide) (Ev.ifn (by decide) ?_)))
        by_cases h2 : b ≥ 9223372036854775808
        · rw [sb, decide_eq_true h2]
          refine Ev.ifp rfl (Ev.same ?_)
          simp only [if_true, Bool.false_eq_true, if_false]
          rw [decide_eq_false (by omega)]
        · rw [sb, decide_eq_false h2]
          refine Ev.ifn (by decide) (Ev.same ?_)
          simp only [Bool.false_eq_true, if_false]
  refine Ev.bindc (ref09_Kind_c ha) ?_
  by_cases h1 : fk a = 4
  · exact Ev.ifp h1 (j0 true (by rw [decide_eq_true (.inl h1)]))
  · refine Ev.ifn h1 (Ev.bindc (ref09_Kind_c hb) (j0 _ ?_))
    by_cases h2 : fk b = 4
    · rw [h2, decide_eq_true (.inr rfl)]; rfl
    · rw [decide_eq_false (fun k => k.elim h1 h2)]
      simp [h2]
end Go.Proofs.Ytjocbnjpjihpnaa.M
end
