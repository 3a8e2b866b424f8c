/- What the functions answer, over plain numbers. -/
import Derived.Laws.BitsLemmas
import Derived.Test.YtbpggonjcnakgaaWWa
import Derived.Test.YtbpggonjcnakgaaBlimb
import Derived.Test.YtbpggonjcnakgaaBgradineref01
import Derived.Test.YtbpggonjcnakgaaBnat
import Derived.Test.YtbpggonjcnakgaaBgradineref02
import Derived.Test.YtbpggonjcnakgaaBgradineref04
import Derived.Test.YtbpggonjcnakgaaBgradineref05
import Derived.Test.YtbpggonjcnakgaaBgradineref07
import Derived.Test.YtbpggonjcnakgaaBfbits
import Derived.Test.YtbpggonjcnakgaaBgradineref09
import Derived.Test.YtbpggonjcnakgaaBfround
import Derived.Test.YtbpggonjcnakgaaBgradineref10
import Derived.Test.YtbpggonjcnakgaaFgradinelaw10same
section
namespace Go.Proofs.Ytbpggonjcnakgaa.M
open Go.RowKit Go.Proofs.YtbpggonjcnakgaaW.PrintWords Go.Proofs.YtbpggonjcnakgaaW.PrintLast Go.Proofs.YtbpggonjcnakgaaW.PrintMore
set_option linter.unusedVariables false

theorem wu (n : Int) : IntKind.u64.wrap n = n % 18446744073709551616 := by simp [IntKind.wrap, IntKind.bits, IntKind.signed]
theorem wu_id {n : Int} (h0 : 0 ≤ n) (h1 : n < 18446744073709551616) : IntKind.u64.wrap n = n := by rw [wu]; omega
theorem w64_id {n : Int} (h0 : -9223372036854775808 ≤ n) (h1 : n ≤ 9223372036854775807) : wrap64 n = n := by unfold wrap64; omega
theorem wu_fits : ∀ n : Int, 0 ≤ n → n < 2 ^ 64 → IntKind.u64.wrap n = n := fun n h0 h1 => wu_id h0 (by omega)
theorem wf_u64 {x : Int} (h : (Lit.int .u64 x).wf = true) : 0 ≤ x ∧ x < 18446744073709551616 := by
  simp [Lit.wf, Go.IntKind.min, IntKind.max, IntKind.bits, IntKind.signed] at h
  omega
theorem wf_i64 {x : Int} (h : (Lit.int .i64 x).wf = true) : -9223372036854775808 ≤ x ∧ x ≤ 9223372036854775807 := by
  simp [Lit.wf, Go.IntKind.min, IntKind.max, IntKind.bits, IntKind.signed] at h
  omega

theorem and_mask (i : Nat) (hi : i ≤ 64) (x : Int) (h0 : 0 ≤ x) (h1 : x < 18446744073709551616) : Go.bits .and .u64 x (2 ^ i - 1) = x % 2 ^ i :=
  bits_mask .u64 64 (by decide) wu_fits i hi x h0 (by omega)
theorem and32 (x : Int) (h0 : 0 ≤ x) (h1 : x < 18446744073709551616) : Go.bits .and .u64 x 4294967295 = x % 4294967296 := and_mask 32 (by decide) x h0 h1
theorem and1 (x : Int) (h0 : 0 ≤ x) (h1 : x < 18446744073709551616) : Go.bits .and .u64 x 1 = x % 2 := and_mask 1 (by decide) x h0 h1
theorem and52 (x : Int) (h0 : 0 ≤ x) (h1 : x < 18446744073709551616) : Go.bits .and .u64 x 4503599627370495 = x % 4503599627370496 := and_mask 52 (by decide) x h0 h1
/-- A number with i bits 0 below, and one of i bits: put together. -/
theorem or_join (i : Nat) (x y : Int) (hx0 : 0 ≤ x) (hx : x % 2 ^ i = 0) (hx1 : x < 18446744073709551616) (hy0 : 0 ≤ y) (hy : y < 2 ^ i) (hy1 : y < 18446744073709551616) : Go.bits .or .u64 x y = x + y :=
  bits_join .u64 64 (by decide) wu_fits i x y hx0 hx (by omega) hy0 hy (by omega)
theorem or_nat (a b : Nat) (ha : a < 2 ^ 64) (hb : b < 2 ^ 64) : Go.bits .or .u64 a b = ((a ||| b : Nat) : Int) := (bits_nat .u64 64 (by decide) wu_fits a b ha hb).2
theorem or_comm (x y : Int) (hx0 : 0 ≤ x) (hx1 : x < 18446744073709551616) (hy0 : 0 ≤ y) (hy1 : y < 18446744073709551616) : Go.bits .or .u64 x y = Go.bits .or .u64 y x := by
  obtain ⟨a, rfl⟩ := Int.eq_ofNat_of_zero_le hx0
  obtain ⟨b, rfl⟩ := Int.eq_ofNat_of_zero_le hy0
  rw [or_nat a b (by omega) (by omega), or_nat b a (by omega) (by omega), Nat.or_comm]

theorem shr_u (x y : Int) (h : y ≤ 64) : shr .u64 x y = x / 2 ^ y.toNat := by
  unfold shr
  rw [show IntKind.bits .u64 = 64 from rfl, Nat.min_eq_left (by omega)]
theorem shl_u (x y : Int) (h : y ≤ 64) : shl .u64 x y = x * 2 ^ y.toNat % 18446744073709551616 := by
  unfold shl
  rw [wu, show IntKind.bits .u64 = 64 from rfl, Nat.min_eq_left (by omega)]

/-! ### From some number of rounds on -/
theorem _root_.Go.Proofs.YtbpggonjcnakgaaW.PrintWords.Ev.ifp {α : Type} {c : Prop} [Decidable c] {f g : Nat → Option α} {r : α} (h : c) (k : Ev f r) : Ev (fun n => if c then f n else g n) r := by
  obtain ⟨K, k⟩ := k
  exact ⟨K, fun n hn => (if_pos h).trans (k n hn)⟩
theorem _root_.Go.Proofs.YtbpggonjcnakgaaW.PrintWords.Ev.ifn {α : Type} {c : Prop} [Decidable c] {f g : Nat → Option α} {r : α} (h : ¬ c) (k : Ev g r) : Ev (fun n => if c then f n else g n) r := by
  obtain ⟨K, k⟩ := k
  exact ⟨K, fun n hn => (if_neg h).trans (k n hn)⟩
/-- What is told without rounds. -/
theorem _root_.Go.Proofs.YtbpggonjcnakgaaW.PrintWords.Ev.same {α : Type} {x : Option α} {r : α} (h : x = some r) : Ev (fun _ => x) r := ⟨0, fun _ _ => h⟩
theorem _root_.Go.Proofs.YtbpggonjcnakgaaW.PrintWords.Ev.eqr {α : Type} {g : Nat → Option α} {r r' : α} (h : Ev g r) (e : r = r') : Ev g r' := e ▸ h
/-- A call without rounds, and what follows. -/
theorem _root_.Go.Proofs.YtbpggonjcnakgaaW.PrintWords.Ev.eqv {α : Type} {g f : Nat → Option α} {r : α} (h : ∀ k, g k = f k) (k : Ev f r) : Ev g r := by
  obtain rfl : g = f := funext h
  exact k
theorem _root_.Go.Proofs.YtbpggonjcnakgaaW.PrintWords.Ev.bindc {α β : Type} {x : Option α} {f : Nat → α → Option β} {a : α} {r : β} (h : x = some a) (k : Ev (fun n => f n a) r) : Ev (fun n => x.bind (f n)) r := Ev.bind (Ev.same h) k

/-! ### How many bits a number has -/
def bl (x : Int) : Int := if x ≤ 0 then 0 else ((Nat.log2 x.toNat + 1 : Nat) : Int)
theorem bl_zero : bl 0 = 0 := rfl
theorem bl_nonneg (x : Int) : 0 ≤ bl x := by unfold bl; split <;> omega
theorem bl_pos {x : Int} (h : 0 < x) : 0 < bl x := by unfold bl; rw [if_neg (by omega)]; omega
theorem bl_lt (x : Int) : x < 2 ^ (bl x).toNat := by
  unfold bl
  split
  · simp only [Int.toNat_zero, Int.pow_zero]; omega
  · rw [Int.toNat_natCast]
    have h := @Nat.lt_log2_self x.toNat
    have h3 : ((x.toNat : Nat) : Int) < ((2 ^ (Nat.log2 x.toNat + 1) : Nat) : Int) := by exact_mod_cast h
    have h4 : ((2 ^ (Nat.log2 x.toNat + 1) : Nat) : Int) = (2 : Int) ^ (Nat.log2 x.toNat + 1) := by push_cast; rfl
    rw [← h4]
    omega
theorem bl_le {x : Int} (h : 0 < x) : 2 ^ (bl x - 1).toNat ≤ x := by
  unfold bl
  rw [if_neg (by omega)]
  have h1 := Nat.log2_self_le (n := x.toNat) (by omega)
  have h3 : ((2 ^ (Nat.log2 x.toNat) : Nat) : Int) ≤ ((x.toNat : Nat) : Int) := by exact_mod_cast h1
  have h4 : ((2 ^ (Nat.log2 x.toNat) : Nat) : Int) = (2 : Int) ^ (Nat.log2 x.toNat) := by push_cast; rfl
  rw [h4] at h3
  have e : (((Nat.log2 x.toNat + 1 : Nat) : Int) - 1).toNat = Nat.log2 x.toNat := by omega
  rw [e]
  omega
theorem pow_le_pow {a b : Nat} (h : a ≤ b) : (2 : Int) ^ a ≤ 2 ^ b := by
  have := Nat.pow_le_pow_right (n := 2) (by decide) h
  have h2 : ((2 ^ a : Nat) : Int) ≤ ((2 ^ b : Nat) : Int) := by exact_mod_cast this
  rw [Int.natCast_pow, Int.natCast_pow] at h2
  exact h2
theorem pow_pos (a : Nat) : (0 : Int) < 2 ^ a := by
  have := Nat.two_pow_pos a
  have h2 : (0 : Int) < ((2 ^ a : Nat) : Int) := by exact_mod_cast this
  rw [Int.natCast_pow] at h2
  exact h2
theorem pow_lt_of {a b : Nat} (h : (2 : Int) ^ a < 2 ^ b) : a < b := by
  rcases Nat.lt_or_ge a b with h1 | h1
  · exact h1
  · have := pow_le_pow h1
    omega
/-- Just one number of bits fits. -/
theorem bl_eq {x : Int} {n : Nat} (h1 : 2 ^ n ≤ x) (h2 : x < 2 ^ (n + 1)) : bl x = n + 1 := by
  have hp := pow_pos n
  have hx : 0 < x := by omega
  have a1 := bl_lt x
  have a2 := bl_le hx
  have a3 := bl_pos hx
  have : n < (bl x).toNat := pow_lt_of (by omega)
  have : (bl x - 1).toNat < n + 1 := pow_lt_of (by omega)
  omega
theorem bl_le_of {x : Int} {n : Nat} (h : x < 2 ^ n) : bl x ≤ n := by
  rcases Int.lt_or_le 0 x with hx | hx
  · have a2 := bl_le hx
    have : (bl x - 1).toNat < n := pow_lt_of (by omega)
    omega
  · have : bl x = 0 := by unfold bl; rw [if_pos hx]
    omega
theorem bl_64 {x : Int} (h : x < 18446744073709551616) : bl x ≤ 64 := bl_le_of (n := 64) (by omega)
/-- A number moved down by s bits has s bits fewer. -/
theorem bl_shr {x : Int} {s : Nat} (h : 2 ^ s ≤ x) : bl x = bl (x / 2 ^ s) + s := by
  have hp := pow_pos s
  have hq : 1 ≤ x / 2 ^ s := by rw [Int.le_ediv_iff_mul_le hp]; omega
  have a1 := bl_lt (x / 2 ^ s)
  have a2 := bl_le (x := x / 2 ^ s) (by omega)
  have a3 := bl_pos (x := x / 2 ^ s) (by omega)
  obtain ⟨n, hn⟩ : ∃ n : Nat, bl (x / 2 ^ s) = n + 1 := ⟨(bl (x / 2 ^ s) - 1).toNat, by omega⟩
  rw [hn] at a1 a2 ⊢
  have e1 : ((n : Int) + 1).toNat = n + 1 := by omega
  have e2 : ((n : Int) + 1 - 1).toNat = n := by omega
  rw [e1] at a1
  rw [e2] at a2
  have b1 : 2 ^ n * 2 ^ s ≤ x := (Int.le_ediv_iff_mul_le hp).1 a2
  have b2 : x < 2 ^ (n + 1) * 2 ^ s := (Int.ediv_lt_iff_lt_mul hp).1 a1
  rw [← Int.pow_add] at b1 b2
  rw [bl_eq (n := n + s) b1 (by rwa [show n + s + 1 = n + 1 + s by omega])]
  omega
end Go.Proofs.Ytbpggonjcnakgaa.M
end
section
namespace Go.Proofs.Ytbpggonjcnakgaa.M
open Go.RowKit Go.Proofs.YtbpggonjcnakgaaW.PrintWords Go.Proofs.YtbpggonjcnakgaaW.PrintLast Go.Proofs.YtbpggonjcnakgaaW.PrintMore
set_option linter.unusedVariables false

def U (x : Int) : Prop := 0 ≤ x ∧ x < 18446744073709551616
def Ws (l : List Int) : Prop := ∀ x ∈ l, U x
/-- Words, and not more of them than any machine has. -/
def Wl (l : List Int) : Prop := Ws l ∧ l.length ≤ 1000000000
def nv : List Int → Int
  | [] => 0
  | x :: l => x + 18446744073709551616 * nv l
theorem nv_cons (x : Int) (l : List Int) : nv (x :: l) = x + 18446744073709551616 * nv l := rfl
def Wp (n : Nat) : Int := 18446744073709551616 ^ n

theorem Wp_zero : Wp 0 = 1 := rfl
theorem Wp_succ (n : Nat) : Wp (n + 1) = 18446744073709551616 * Wp n := by unfold Wp; rw [Int.pow_succ, Int.mul_comm]
theorem Wp_pos (n : Nat) : 0 < Wp n := by
  induction n with
  | zero => decide
  | succ n ih => rw [Wp_succ]; omega
theorem Wp_add (a b : Nat) : Wp (a + b) = Wp a * Wp b := by unfold Wp; rw [Int.pow_add]
theorem Wp_two (n : Nat) : Wp n = 2 ^ (64 * n) := by
  unfold Wp
  rw [Int.pow_mul]
  rfl
theorem Wp_le {a b : Nat} (h : a ≤ b) : Wp a ≤ Wp b := by rw [Wp_two, Wp_two]; exact pow_le_pow (by omega)

theorem Ws_nil : Ws [] := fun x h => by simp at h
theorem Ws_cons {x : Int} {l : List Int} : Ws (x :: l) ↔ U x ∧ Ws l := by unfold Ws; simp
theorem Ws_app {a b : List Int} : Ws (a ++ b) ↔ Ws a ∧ Ws b := by
  unfold Ws
  simp only [List.mem_append]
  exact ⟨fun h => ⟨fun x hx => h x (.inl hx), fun x hx => h x (.inr hx)⟩, fun h x hx => hx.elim (h.1 x) (h.2 x)⟩
theorem Ws_take {l : List Int} (h : Ws l) (n : Nat) : Ws (l.take n) := fun x hx => h x (List.mem_of_mem_take hx)
theorem Ws_drop {l : List Int} (h : Ws l) (n : Nat) : Ws (l.drop n) := fun x hx => h x (List.mem_of_mem_drop hx)
theorem Ws_one {x : Int} (h : U x) : Ws [x] := fun y hy => by simp at hy; rw [hy]; exact h
theorem Ws_zeros (n : Nat) : Ws (List.replicate n 0) := fun x hx => by rw [List.eq_of_mem_replicate hx]; unfold U; omega
theorem U_rd {l : List Int} (h : Ws l) (i : Int) : U (rd l i) := by
  unfold rd
  rw [List.getD_eq_getElem?_getD]
  rcases Nat.lt_or_ge i.toNat l.length with hi | hi
  · rw [List.getElem?_eq_getElem hi]; exact h _ (List.getElem_mem hi)
  · rw [List.getElem?_eq_none hi]; unfold U; simp

theorem nv_nonneg {l : List Int} (h : Ws l) : 0 ≤ nv l := by
  induction l with
  | nil => exact Int.le_refl 0
  | cons x l ih =>
    have h1 := Ws_cons.1 h
    have h2 := ih h1.2
    have h3 := h1.1.1
    rw [nv_cons]
    omega
theorem nv_lt {l : List Int} (h : Ws l) : nv l < Wp l.length := by
  induction l with
  | nil => decide
  | cons x l ih =>
    have h1 := Ws_cons.1 h
    have h2 := ih h1.2
    have h3 := h1.1.2
    rw [List.length_cons, Wp_succ, nv_cons]
    omega
theorem nv_app (a b : List Int) : nv (a ++ b) = nv a + Wp a.length * nv b := by
  induction a with
  | nil => simp [nv, Wp_zero]
  | cons x a ih =>
    rw [List.cons_append, List.length_cons, Wp_succ, nv_cons, nv_cons, ih]
    grind
theorem nv_one (x : Int) : nv [x] = x := by rw [nv_cons]; show x + 18446744073709551616 * 0 = x; omega
theorem nv_snoc (a : List Int) (x : Int) : nv (a ++ [x]) = nv a + Wp a.length * x := by rw [nv_app, nv_one]
theorem nv_zeros (n : Nat) : nv (List.replicate n 0) = 0 := by
  induction n with
  | zero => rfl
  | succ n ih => rw [List.replicate_succ, nv_cons, ih]; rfl
theorem take_rd {l : List Int} {i : Nat} (h : i < l.length) : l.take (i + 1) = l.take i ++ [rd l (i : Int)] := by
  rw [List.take_succ_eq_append_getElem h]
  unfold rd
  rw [Int.toNat_natCast, List.getD_eq_getElem?_getD, List.getElem?_eq_getElem h]
  rfl
theorem nv_take_succ {l : List Int} {i : Nat} (h : i < l.length) : nv (l.take (i + 1)) = nv (l.take i) + Wp i * rd l (i : Int) := by
  rw [take_rd h, nv_snoc, List.length_take, Nat.min_eq_left (by omega)]
theorem nv_split (l : List Int) (i : Nat) : nv l = nv (l.take i) + Wp (min i l.length) * nv (l.drop i) := by
  have := nv_app (l.take i) (l.drop i)
  rw [List.take_append_drop, List.length_take] at this
  exact this

/-! ### A number's list -/
def dgF : Nat → Int → List Int
  | 0, _ => []
  | k + 1, n => if n ≤ 0 then [] else n % 18446744073709551616 :: dgF k (n / 18446744073709551616)
def dg (n : Int) : List Int := dgF n.toNat n
theorem dgF_nil (k : Nat) {n : Int} (h : n ≤ 0) : dgF k n = [] := by
  cases k with
  | zero => rfl
  | succ k => unfold dgF; rw [if_pos h]
theorem dgF_eq : ∀ (k j : Nat) (n : Int), n.toNat ≤ k → n.toNat ≤ j → dgF k n = dgF j n
  | 0, j, n, hk, _ => by rw [dgF_nil 0 (by omega), dgF_nil j (by omega)]
  | k + 1, 0, n, _, hj => by rw [dgF_nil _ (by omega), dgF_nil 0 (by omega)]
  | k + 1, j + 1, n, hk, hj => by
    unfold dgF
    by_cases h : n ≤ 0
    · rw [if_pos h, if_pos h]
    · rw [if_neg h, if_neg h, dgF_eq k j _ (by omega) (by omega)]
theorem dg_nil {n : Int} (h : n ≤ 0) : dg n = [] := dgF_nil _ h
theorem dg_zero : dg 0 = [] := rfl
theorem dg_pos {n : Int} (h : 0 < n) : dg n = n % 18446744073709551616 :: dg (n / 18446744073709551616) := by
  unfold dg
  obtain ⟨k, hk⟩ : ∃ k, n.toNat = k + 1 := ⟨n.toNat - 1, by omega⟩
  rw [hk]
  conv => lhs; unfold dgF
  rw [if_neg (by omega), dgF_eq k _ _ (by omega) (Nat.le_refl _)]
theorem dg_ind {P : Int → Prop} (h0 : P 0) (hs : ∀ n, 0 < n → P (n / 18446744073709551616) → P n) (n : Int) (hn : 0 ≤ n) : P n := by
  have key : ∀ (k : Nat) (n : Int), 0 ≤ n → n.toNat ≤ k → P n := by
    intro k
    induction k with
    | zero => intro n h1 h2; obtain rfl : n = 0 := by omega
              exact h0
    | succ k ih =>
      intro n h1 h2
      rcases (show n = 0 ∨ 0 < n by omega) with rfl | h
      · exact h0
      · exact hs n h (ih _ (by omega) (by omega))
  exact key _ n hn (Nat.le_refl _)
theorem dg_Ws (n : Int) : Ws (dg n) := by
  rcases Int.lt_or_le n 0 with h | h
  · rw [dg_nil (by omega)]; exact Ws_nil
  · refine dg_ind (P := fun n => Ws (dg n)) Ws_nil (fun n hn ih => ?_) n h
    rw [dg_pos hn]
    exact Ws_cons.2 ⟨by unfold U; omega, ih⟩
theorem nv_dg {n : Int} (h : 0 ≤ n) : nv (dg n) = n := by
  refine dg_ind (P := fun n => nv (dg n) = n) rfl (fun n hn ih => ?_) n h
  rw [dg_pos hn, nv_cons, ih]
  omega
/-- No word 0 at the end. -/
def Cn (l : List Int) : Prop := l = [] ∨ l.getLast? ≠ some 0
theorem Cn_tail {x : Int} {l : List Int} (h : Cn (x :: l)) : Cn l := by
  cases l with
  | nil => exact .inl rfl
  | cons y l =>
    rcases h with h | h
    · cases h
    · rw [List.getLast?_cons_cons] at h; exact .inr h
theorem nv_pos_of {l : List Int} (h : Ws l) (hc : Cn l) (hne : l ≠ []) : 0 < nv l := by
  induction l with
  | nil => exact absurd rfl hne
  | cons x l ih =>
    have h1 := Ws_cons.1 h
    unfold U at h1
    rw [nv_cons]
    cases l with
    | nil =>
      rcases hc with hc | hc
      · cases hc
      · simp at hc; show 0 < x + 18446744073709551616 * 0; omega
    | cons y l =>
      have := ih h1.2 (Cn_tail hc) (by simp)
      omega
theorem dg_nv {l : List Int} (h : Ws l) (hc : Cn l) : dg (nv l) = l := by
  induction l with
  | nil => rfl
  | cons x l ih =>
    have h0 := nv_pos_of h hc (by simp)
    have h1 := Ws_cons.1 h
    have h2 := nv_nonneg h1.2
    unfold U at h1
    have e : nv (x :: l) = x + 18446744073709551616 * nv l := rfl
    rw [dg_pos h0, e, show (x + 18446744073709551616 * nv l) % 18446744073709551616 = x by omega, show (x + 18446744073709551616 * nv l) / 18446744073709551616 = nv l by omega, ih h1.2 (Cn_tail hc)]
theorem dg_len_le {n : Int} {m : Nat} (h : n < Wp m) : (dg n).length ≤ m := by
  induction m generalizing n with
  | zero => rw [dg_nil (by rw [Wp_zero] at h; omega)]; simp
  | succ m ih =>
    rcases Int.lt_or_le 0 n with h1 | h1
    · rw [dg_pos h1, List.length_cons]
      rw [Wp_succ] at h
      have := @ih (n / 18446744073709551616) (by omega)
      omega
    · rw [dg_nil h1]; simp
theorem le_dg_len {n : Int} {m : Nat} (h : Wp m ≤ n) : m < (dg n).length := by
  have hp := Wp_pos m
  have h1 := nv_lt (dg_Ws n)
  rw [nv_dg (by omega)] at h1
  rcases Nat.lt_or_ge m (dg n).length with h2 | h2
  · exact h2
  · have := Wp_le h2; omega
theorem dg_len_lt {n : Int} (h : 0 < n) : Wp ((dg n).length - 1) ≤ n := by
  rcases Int.lt_or_le n (Wp ((dg n).length - 1)) with h1 | h1
  · have := dg_len_le h1
    have h2 : (dg n).length ≠ 0 := by rw [dg_pos h]; simp
    omega
  · exact h1
theorem lt_Wp_dg {n : Int} (h : 0 ≤ n) : n < Wp (dg n).length := by
  have h1 := nv_lt (dg_Ws n)
  rwa [nv_dg h] at h1
/-! ### Bits -/
theorem bl_mono {x y : Int} (h : x ≤ y) : bl x ≤ bl y := by
  have h1 := bl_lt y
  have := bl_le_of (x := x) (n := (bl y).toNat) (by omega)
  have := bl_nonneg y
  omega
theorem bl_mul {x y : Int} (hx : 0 ≤ x) (hy : 0 ≤ y) : bl (x * y) ≤ bl x + bl y := by
  have a1 := bl_lt x
  have a2 := bl_lt y
  have n1 := bl_nonneg x
  have n2 := bl_nonneg y
  have p1 := pow_pos (bl x).toNat
  have h : x * y < 2 ^ ((bl x).toNat + (bl y).toNat) := by
    rw [Int.pow_add]
    rcases (show y = 0 ∨ 0 < y by omega) with rfl | h
    · rw [Int.mul_zero]; exact Int.mul_pos p1 (pow_pos _)
    · exact Int.mul_lt_mul a1 (by omega) h (by omega)
  have := bl_le_of h
  omega
theorem dg_len_bl (n : Int) : ((dg n).length : Int) ≤ (bl n + 63) / 64 := by
  have h1 := bl_lt n
  have n1 := bl_nonneg n
  obtain ⟨k, hk⟩ := Int.eq_ofNat_of_zero_le (show 0 ≤ (bl n + 63) / 64 by omega)
  have h2 : n < Wp k := by
    rw [Wp_two]
    have := pow_le_pow (a := (bl n).toNat) (b := 64 * k) (by omega)
    omega
  have := dg_len_le h2
  omega
theorem Wl_dg {n : Int} (h : bl n ≤ 60000000000) : Wl (dg n) := ⟨dg_Ws n, by have := dg_len_bl n; omega⟩
theorem bl_nv {l : List Int} (h : Ws l) : bl (nv l) ≤ 64 * l.length := by
  have h1 := nv_lt h
  rw [Wp_two] at h1
  have := bl_le_of h1
  omega
end Go.Proofs.Ytbpggonjcnakgaa.M
end
section
namespace Go.Proofs.Ytbpggonjcnakgaa.M
open Go.RowKit Go.Proofs.Ytbpggonjcnakgaa.P Go.Proofs.YtbpggonjcnakgaaW.PrintWords Go.Proofs.YtbpggonjcnakgaaW.PrintLast Go.Proofs.YtbpggonjcnakgaaW.PrintMore
set_option linter.unusedVariables false

theorem limb_Add_c {a b c : Int} (ha : U a) (hb : U b) (hc : U c) : limb_Add.f a b c = some ((a + b + c) % 18446744073709551616, (a + b + c) / 18446744073709551616) := by
  unfold U at ha hb hc
  unfold limb_Add.f
  simp only [wu]
  split <;> split <;> (simp only [Option.some.injEq, Prod.mk.injEq]; omega)
/-! ### How many bits -/
theorem len_base (k : Nat) (x n : Int) (h0 : 0 ≤ x) (h1 : x < 2) (hn0 : 0 ≤ n) (hn1 : n ≤ 63) : limb_Len.l0 (k + 1) x n 0 = some (n + bl x) := by
  simp only [limb_Len.l0]
  rw [if_neg (by omega), w64_id (n := x) (by omega) (by omega), w64_id (by omega) (by omega)]
  rcases (show x = 0 ∨ x = 1 by omega) with rfl | rfl
  · rfl
  · have : bl 1 = 1 := rfl
    rw [this]
theorem len_step (k s s' : Nat) (hs : 0 < s) (hs2 : s ≤ 32) (hs' : s' = s / 2)
    (H : ∀ x n : Int, 0 ≤ x → x < 2 ^ s → 0 ≤ n → n ≤ 64 - s → limb_Len.l0 k x n s' = some (n + bl x))
    (x n : Int) (h0 : 0 ≤ x) (h1 : x < 2 ^ (2 * s)) (hn0 : 0 ≤ n) (hn1 : n ≤ 64 - 2 * s) : limb_Len.l0 (k + 1) x n s = some (n + bl x) := by
  have hp := pow_pos s
  have hd : ((s : Nat) : Int) / 2 = ((s' : Nat) : Int) := by omega
  simp only [limb_Len.l0]
  rw [if_pos (by omega), if_pos (by omega), shr_u _ _ (by omega), Int.toNat_natCast, hd]
  by_cases hq : x / 2 ^ s > 0
  · have hle : 2 ^ s ≤ x := by
      rcases Int.lt_or_le x (2 ^ s) with h | h
      · rw [Int.ediv_eq_zero_of_lt h0 h] at hq; omega
      · exact h
    rw [if_pos hq, w64_id (by omega) (by omega), H _ _ (by omega) ?_ (by omega) (by omega), bl_shr hle]
    · congr 1; omega
    · rw [Int.ediv_lt_iff_lt_mul hp, ← Int.pow_add]
      rwa [show s + s = 2 * s by omega]
  · have hlt : x < 2 ^ s := by
      rcases Int.lt_or_le x (2 ^ s) with h | h
      · exact h
      · have : 1 ≤ x / 2 ^ s := by rw [Int.le_ediv_iff_mul_le hp]; omega
        omega
    rw [if_neg hq, H _ _ h0 hlt hn0 (by omega)]
theorem limb_Len_c {x : Int} (h : U x) : Ev (fun k => limb_Len.f k x) (bl x) := by
  refine ⟨7, fun k hk => ?_⟩
  obtain ⟨k, rfl⟩ : ∃ m, k = m + 1 + 1 + 1 + 1 + 1 + 1 + 1 := ⟨k - 7, by omega⟩
  have s0 : ∀ x n : Int, 0 ≤ x → x < 2 ^ 1 → 0 ≤ n → n ≤ 64 - ((1 : Nat) : Int) → limb_Len.l0 (k + 1) x n ((0 : Nat) : Int) = some (n + bl x) := fun x n a b c d => len_base k x n a (by omega) c (by omega)
  have s1 := len_step (k + 1) 1 0 (by omega) (by omega) rfl s0
  have s2 := len_step (k + 1 + 1) 2 1 (by omega) (by omega) rfl (fun x n a b c d => s1 x n a b c (by omega))
  have s3 := len_step (k + 1 + 1 + 1) 4 2 (by omega) (by omega) rfl (fun x n a b c d => s2 x n a b c (by omega))
  have s4 := len_step (k + 1 + 1 + 1 + 1) 8 4 (by omega) (by omega) rfl (fun x n a b c d => s3 x n a b c (by omega))
  have s5 := len_step (k + 1 + 1 + 1 + 1 + 1) 16 8 (by omega) (by omega) rfl (fun x n a b c d => s4 x n a b c (by omega))
  have s6 := len_step (k + 1 + 1 + 1 + 1 + 1 + 1) 32 16 (by omega) (by omega) rfl (fun x n a b c d => s5 x n a b c (by omega))
  have := s6 x 0 h.1 h.2 (by omega) (by omega)
  unfold limb_Len.f
  exact this.trans (by congr 1; omega)
theorem ref01_Len_l (m : Nat) : ∀ x n : Int, 0 ≤ x → x.toNat ≤ m → bl x ≤ 64 → 0 ≤ n → n + bl x ≤ 1000 → Ev (fun k => gradineref01_Len.l0 k x n) (n + bl x) := by
  induction m with
  | zero =>
    intro x n h0 h1 hb hn hn1
    obtain rfl : x = 0 := by omega
    refine Ev.step (fun k => gradineref01_Len.l0.eq_2 ..) ?_
    refine Ev.ifn (by omega) ?_
    exact Ev.same (by rw [bl_zero]; congr 1; omega)
  | succ m ih =>
    intro x n h0 h1 hb hn hn1
    refine Ev.step (fun k => gradineref01_Len.l0.eq_2 ..) ?_
    by_cases hx : x > 0
    · refine Ev.ifp hx ?_
      have e : bl x = bl (x / 2) + 1 ∨ (x = 1 ∧ bl x = 1) := by
        rcases (show x = 1 ∨ 2 ≤ x by omega) with h | h
        · exact .inr ⟨h, by rw [h]; rfl⟩
        · exact .inl (bl_shr (s := 1) (by omega))
      have e2 : bl x = bl (x / 2) + 1 := by
        rcases e with e | ⟨rfl, e⟩
        · exact e
        · rfl
      have hn2 := bl_nonneg (x / 2)
      rw [w64_id (by omega) (by omega)]
      refine (ih (x / 2) (n + 1) (by omega) (by omega) (by omega) (by omega) (by omega)).eqr (by omega)
    · refine Ev.ifn hx ?_
      obtain rfl : x = 0 := by omega
      exact Ev.same (by rw [bl_zero]; congr 1; omega)
theorem ref01_Len_c {x : Int} (h : U x) : Ev (fun k => gradineref01_Len.f k x) (bl x) := by
  have hb := bl_64 h.2
  have := ref01_Len_l x.toNat x 0 h.1 (Nat.le_refl _) hb (by omega) (by omega)
  exact this.eqr (by omega)

/-! ### Quotients -/
/-! ### The reference, bit by bit -/
theorem div_pow_range {b : Int} (hb : U b) (n : Nat) : 0 ≤ b / 2 ^ n ∧ b / 2 ^ n ≤ b := by
  have hp := pow_pos n
  exact ⟨Int.ediv_nonneg hb.1 (by omega), Int.ediv_le_self _ hb.1⟩
end Go.Proofs.Ytbpggonjcnakgaa.M
end
section
namespace Go.Proofs.Ytbpggonjcnakgaa.M
open Go.RowKit Go.Proofs.Ytbpggonjcnakgaa.P Go.Proofs.YtbpggonjcnakgaaW.PrintWords Go.Proofs.YtbpggonjcnakgaaW.PrintLast Go.Proofs.YtbpggonjcnakgaaW.PrintMore
set_option linter.unusedVariables false

theorem Cn_take {l : List Int} {n : Nat} (h : n < l.length) (hr : rd l (n : Int) ≠ 0) : Cn (l.take (n + 1)) := by
  rw [take_rd h]
  exact .inr (by rw [List.getLast?_append]; simpa using hr)
theorem dg_take {l : List Int} (h : Ws l) {n : Nat} (hn : n < l.length) (hr : rd l (n : Int) ≠ 0) (he : nv (l.take (n + 1)) = nv l) : dg (nv l) = l.take (n + 1) := by
  rw [← he, dg_nv (Ws_take h _) (Cn_take hn hr)]
theorem nat_size_l {l : List Int} (h : Wl l) (n : Nat) : n ≤ l.length → nv (l.take n) = nv l → Ev (fun k => nat_size.l0 k l n) ((dg (nv l)).length : Int) := by
  obtain ⟨hw, hl⟩ := h
  induction n with
  | zero =>
    intro hn he
    refine Ev.step (fun k => nat_size.l0.eq_2 ..) ?_
    refine Ev.ifn (by omega) (Ev.same ?_)
    rw [← he]
    rfl
  | succ n ih =>
    intro hn he
    have e : wrap64 (((n + 1 : Nat) : Int) - 1) = (n : Int) := by rw [w64_id (by omega) (by omega)]; omega
    refine Ev.step (fun k => nat_size.l0.eq_2 ..) ?_
    refine Ev.ifp (by omega) ?_
    rw [e]
    refine Ev.ifp (by omega) (Ev.ifp (by omega) ?_)
    by_cases hr : rd l (n : Int) = 0
    · refine Ev.ifp hr (ih (by omega) ?_)
      rw [← he, nv_take_succ (by omega), hr, Int.mul_zero, Int.add_zero]
    · refine Ev.ifn hr (Ev.same ?_)
      rw [dg_take hw (by omega) hr he, List.length_take, Nat.min_eq_left (by omega)]
theorem nat_size_c {l : List Int} (h : Wl l) : Ev (fun k => nat_size.f k l) ((dg (nv l)).length : Int) :=
  nat_size_l h l.length (Nat.le_refl _) (by rw [List.take_length])
/-- A list's first words are its number's. -/
theorem dg_prefix {l : List Int} (h : Ws l) : ∃ r, l = dg (nv l) ++ r ∧ nv r = 0 := by
  have key : ∀ n, n ≤ l.length → nv (l.take n) = nv l → l.take (dg (nv l)).length = dg (nv l) := by
    intro n
    induction n with
    | zero => intro _ he; rw [← he]; rfl
    | succ n ih =>
      intro hn he
      by_cases hr : rd l (n : Int) = 0
      · refine ih (by omega) ?_
        rw [← he, nv_take_succ (by omega), hr, Int.mul_zero, Int.add_zero]
      · rw [dg_take h (by omega) hr he, List.length_take, Nat.min_eq_left (by omega)]
  have h1 := key l.length (Nat.le_refl _) (by rw [List.take_length])
  refine ⟨l.drop (dg (nv l)).length, ?_, ?_⟩
  · conv => rhs; lhs; rw [← h1]
    rw [List.take_append_drop]
  · have h2 := nv_split l (dg (nv l)).length
    rw [h1, nv_dg (nv_nonneg h)] at h2
    have h3 := Wp_pos (min (dg (nv l)).length l.length)
    have h4 : Wp (min (dg (nv l)).length l.length) * nv (l.drop (dg (nv l)).length) = 0 := by omega
    rcases Int.mul_eq_zero.1 h4 with h5 | h5
    · omega
    · exact h5
theorem dg_len_list {l : List Int} (h : Ws l) : (dg (nv l)).length ≤ l.length := dg_len_le (nv_lt h)
theorem take_dg {l : List Int} (h : Ws l) : l.take (dg (nv l)).length = dg (nv l) := by
  obtain ⟨r, hr, _⟩ := dg_prefix h
  conv => lhs; rhs; rw [hr]
  simp
theorem rd_dg {l : List Int} (h : Ws l) (i : Int) : rd l i = rd (dg (nv l)) i := by
  obtain ⟨r, hr, hz⟩ := dg_prefix h
  have hrz : ∀ (r : List Int), Ws r → nv r = 0 → ∀ j, r.getD j 0 = 0 := by
    intro r
    induction r with
    | nil => intro _ _ j; simp
    | cons x r ih =>
      intro hw h0 j
      have h1 := Ws_cons.1 hw
      have h2 := nv_nonneg h1.2
      unfold U at h1
      rw [nv_cons] at h0
      cases j with
      | zero => simp; omega
      | succ j => simpa using ih h1.2 (by omega) j
  have hwr : Ws r := (Ws_app.1 (hr ▸ h)).2
  unfold rd
  conv => lhs; rw [hr]
  rw [List.getD_eq_getElem?_getD, List.getD_eq_getElem?_getD]
  rcases Nat.lt_or_ge i.toNat (dg (nv l)).length with hi | hi
  · rw [List.getElem?_append_left hi]
  · rw [List.getElem?_append_right hi, List.getElem?_eq_none hi, ← List.getD_eq_getElem?_getD, hrz r hwr hz]
    rfl
theorem nat_Trim_c {l : List Int} (h : Wl l) : Ev (fun k => nat_Trim.f k l) (dg (nv l)) := by
  obtain ⟨hw, hl⟩ := h
  have hd := dg_len_list hw
  refine Ev.bindc rfl ?_
  refine Ev.bind (nat_size_c ⟨hw, hl⟩) ?_
  rw [Int.toNat_natCast, take_dg hw]
  refine Ev.ifp (by omega) (Ev.ifp (by omega) (Ev.ifp (by rw [List.length_nil]; omega) ?_))
  exact Ev.same (by rw [List.nil_append])
theorem nat_Of_c {x : Int} (h : U x) : Ev (fun k => nat_Of.f k x) (dg x) := by
  have := nat_Trim_c (l := [x]) ⟨Ws_one h, by simp⟩
  rw [nv_one] at this
  exact Ev.bind this (Ev.same rfl)
theorem dg_word {n : Int} (h : U n) : dg n = if n = 0 then [] else [n] := by
  unfold U at h
  split
  · rename_i h0; rw [h0]; rfl
  · rw [dg_pos (by omega), show n / 18446744073709551616 = 0 by omega, dg_zero, show n % 18446744073709551616 = n by omega]
theorem dg_len_zero {n : Int} (h : 0 ≤ n) : (dg n).length = 0 ↔ n = 0 := by
  constructor
  · intro h1
    have := nv_dg h
    rw [List.eq_nil_of_length_eq_zero h1] at this
    exact this.symm
  · intro h1; rw [h1]; rfl
theorem nat_Word_c {l : List Int} (h : Wl l) : Ev (fun k => nat_Word.f k l) (if nv l < 18446744073709551616 then (nv l, true) else (0, false)) := by
  obtain ⟨hw, hl⟩ := h
  have hn := nv_nonneg hw
  refine Ev.bind (nat_size_c ⟨hw, hl⟩) ?_
  by_cases h0 : nv l = 0
  · have h1 : (dg (nv l)).length = 0 := (dg_len_zero hn).2 h0
    refine Ev.ifp (by omega) (Ev.same ?_)
    rw [h0, if_pos (by omega)]
  · have h1 : (dg (nv l)).length ≠ 0 := fun h => h0 ((dg_len_zero hn).1 h)
    refine Ev.ifn (by omega) ?_
    by_cases h2 : nv l < 18446744073709551616
    · have hd := dg_word (n := nv l) ⟨hn, h2⟩
      rw [if_neg h0] at hd
      rw [if_pos h2]
      refine Ev.ifp (by rw [hd]; rfl) (Ev.ifp ?_ (Ev.same ?_))
      · have := dg_len_list hw; rw [hd] at this; simp at this; omega
      · rw [rd_dg hw, hd]; rfl
    · rw [if_neg h2]
      refine Ev.ifn ?_ (Ev.same rfl)
      have := le_dg_len (n := nv l) (m := 1) (by show (18446744073709551616 : Int) ^ 1 ≤ _; omega)
      omega

def cmpI (x y : Int) : Int := if x < y then -1 else if y < x then 1 else 0
theorem cmpI_lt {x y : Int} (h : x < y) : cmpI x y = -1 := by unfold cmpI; rw [if_pos h]
theorem cmpI_gt {x y : Int} (h : y < x) : cmpI x y = 1 := by unfold cmpI; rw [if_neg (by omega), if_pos h]
theorem nv_take_dg {l : List Int} (h : Ws l) : nv (l.take (dg (nv l)).length) = nv l := by rw [take_dg h, nv_dg (nv_nonneg h)]
/-! ### Sums and differences -/
theorem take_zero_of_ge {b : List Int} {i : Nat} (h : b.length ≤ i) : b.take (i + 1) = b.take i := by rw [List.take_of_length_le (by omega), List.take_of_length_le (by omega)]
theorem Wl_snoc {a : List Int} {x : Int} (ha : Ws a) (hx : U x) : Ws (a ++ [x]) := Ws_app.2 ⟨ha, Ws_one hx⟩
/-- One loop of a sum; both of the program's say the same. -/
theorem nat_Add_end {out : List Int} {over : Int} (h : Wl (out ++ [over])) (hl : out.length ≤ 999999999) : Ev (fun k => if out.length < 17592186044416 then ((nat_Trim.f k (out ++ [over])).bind fun t183 => (some t183)) else (none)) (dg (nv out + Wp out.length * over)) := by
  refine Ev.ifp (by omega) ?_
  rw [← nv_snoc]
  exact Ev.bind (nat_Trim_c h) (Ev.same rfl)
theorem nat_Add_l0 {a b : List Int} (ha : Wl a) (hb : Wl b) (hlb : b.length ≤ a.length) (hla : a.length ≤ 999999999) (d : Nat) : ∀ (i : Nat) (out : List Int) (over : Int), i + d = a.length → out.length = i → Ws out → 0 ≤ over → over ≤ 1 → nv out + Wp i * over = nv (a.take i) + nv (b.take i) →
    Ev (fun k => nat_Add.l0 k b out over a (a.length : Int) i) (dg (nv a + nv b)) := by
  induction d with
  | zero =>
    intro i out over hi hlo hwo h0 h1 he
    refine Ev.step (fun k => nat_Add.l0.eq_2 ..) ?_
    refine Ev.ifn (by omega) ?_
    rw [List.take_of_length_le (by omega), List.take_of_length_le (by omega)] at he
    rw [← he, ← hlo]
    exact nat_Add_end ⟨Wl_snoc hwo (by unfold U; omega), by simp; omega⟩ (by omega)
  | succ d ih =>
    intro i out over hi hlo hwo h0 h1 he
    have hx := U_rd ha.1 (i : Int)
    refine Ev.step (fun k => nat_Add.l0.eq_2 ..) ?_
    refine Ev.ifp (by omega) (Ev.ifp (by omega) (Ev.ifp (by omega) ?_))
    have fin : ∀ y : Int, U y → nv (b.take (i + 1)) = nv (b.take i) + Wp i * y → Ev (fun k => (limb_Add.f (rd a (i : Int)) y over).bind fun bt170 => (if out.length < 17592186044416 then (nat_Add.l0 k b (out ++ [bt170.1]) bt170.2 a (a.length : Int) (wrap64 ((i : Int) + 1))) else (none))) (dg (nv a + nv b)) := by
      intro y hy hby
      refine Ev.bindc (limb_Add_c hx hy (by unfold U; omega)) ?_
      dsimp only
      refine Ev.ifp (by omega) ?_
      have e : wrap64 ((i : Int) + 1) = ((i + 1 : Nat) : Int) := by rw [w64_id (by omega) (by omega)]; omega
      rw [e]
      unfold U at hx hy
      refine ih (i + 1) _ _ (by omega) (by simp; omega) (Wl_snoc hwo (by unfold U; omega)) (by omega) (by omega) ?_
      rw [nv_snoc, hlo, nv_take_succ (l := a) (by omega), hby, Wp_succ]
      have hs : (rd a (i : Int) + y + over) = 18446744073709551616 * ((rd a (i : Int) + y + over) / 18446744073709551616) + (rd a (i : Int) + y + over) % 18446744073709551616 := by omega
      generalize (rd a (i : Int) + y + over) / 18446744073709551616 = q at *
      generalize (rd a (i : Int) + y + over) % 18446744073709551616 = r at *
      generalize rd a (i : Int) = x at *
      have : over = 18446744073709551616 * q + r - x - y := by omega
      rw [this] at he
      grind
    by_cases hib : (i : Int) < (b.length : Int)
    · exact Ev.ifp hib (fin _ (U_rd hb.1 _) (nv_take_succ (by omega)))
    · refine Ev.ifn hib (fin 0 (by unfold U; omega) ?_)
      rw [take_zero_of_ge (by omega), Int.mul_zero, Int.add_zero]
theorem nat_Add_l01 (a b out : List Int) : ∀ (k : Nat) (over len i : Int), nat_Add.l1 k b out over a len i = nat_Add.l0 k b out over a len i := by
  intro k
  induction k generalizing out with
  | zero => intros; rfl
  | succ k ih => intros; simp only [nat_Add.l0, nat_Add.l1, ih]
theorem nat_Add_c {a b : List Int} (ha : Wl a) (hb : Wl b) (hla : a.length ≤ 999999999) (hlb : b.length ≤ 999999999) : Ev (fun k => nat_Add.f k a b) (dg (nv a + nv b)) := by
  by_cases h : (a.length : Int) < (b.length : Int)
  · refine Ev.ifp h ?_
    rw [w64_id (by omega) (by omega)]
    refine Ev.ifp (by omega) (Ev.ifp (by omega) ?_)
    rw [Int.add_comm]
    exact nat_Add_l0 hb ha (by omega) hlb b.length 0 [] 0 (by omega) rfl Ws_nil (by omega) (by omega) rfl
  · refine Ev.ifn h ?_
    rw [w64_id (by omega) (by omega)]
    refine Ev.ifp (by omega) (Ev.ifp (by omega) ?_)
    exact Ev.congr (fun k => nat_Add_l01 ..) (nat_Add_l0 ha hb (by omega) hla a.length 0 [] 0 (by omega) rfl Ws_nil (by omega) (by omega) rfl)
end Go.Proofs.Ytbpggonjcnakgaa.M
end
section
namespace Go.Proofs.Ytbpggonjcnakgaa.M
open Go.RowKit Go.Proofs.Ytbpggonjcnakgaa.P Go.Proofs.YtbpggonjcnakgaaW.PrintWords Go.Proofs.YtbpggonjcnakgaaW.PrintLast Go.Proofs.YtbpggonjcnakgaaW.PrintMore
set_option linter.unusedVariables false

/-- A fact that linear arithmetic is not to look at. -/
structure Hd (p : Prop) : Prop where mk :: (out : p)
theorem sub_succ_of {i m : Nat} (h : m ≤ i) : i + 1 - m = i - m + 1 := by omega
/-! ### Up and down -/
def shn (n : Int) : Nat := (mn (mx n 0) 65536).toNat
theorem shn_le (n : Int) : shn n ≤ 65536 := by unfold shn mn; split <;> omega
theorem shn_of {n : Int} (h0 : 0 ≤ n) (h1 : n ≤ 65536) : shn n = n.toNat := by unfold shn mn mx; split <;> split <;> omega
theorem shn_eq (n : Int) : mn (mx n 0) 65536 = (shn n : Int) := by unfold shn mn mx; split <;> split <;> omega
theorem mul_mod_left (x y : Int) : x % 18446744073709551616 * y % 18446744073709551616 = x * y % 18446744073709551616 := by
  rw [Int.mul_emod, Int.emod_emod_of_dvd _ (Int.dvd_refl _), ← Int.mul_emod]
theorem w_split {b : Nat} (h : b ≤ 64) : (2 : Int) ^ (64 - b) * 2 ^ b = 18446744073709551616 := by
  rw [← Int.pow_add, show 64 - b + b = 64 by omega]; rfl
theorem mod_up (z : Int) {b : Nat} (h : b ≤ 64) : z * 2 ^ (64 - b) % 18446744073709551616 = 2 ^ (64 - b) * (z % 2 ^ b) := by
  rw [← w_split h, Int.mul_comm z, Int.mul_emod_mul_of_pos _ _ (pow_pos _)]
theorem mod_up' (z : Int) {b : Nat} (h : b ≤ 64) : z * 2 ^ b % 18446744073709551616 = 2 ^ b * (z % 2 ^ (64 - b)) := by
  have := mod_up z (b := 64 - b) (by omega)
  rwa [show 64 - (64 - b) = b by omega] at this
theorem div_div_pow (x : Int) {b : Nat} (h : b ≤ 63) : x / 2 / 2 ^ (63 - b) = x / 2 ^ (64 - b) := by
  rw [Int.ediv_ediv_of_nonneg (by omega), show 64 - b = (63 - b) + 1 by omega, Int.pow_succ, Int.mul_comm]
theorem shl_word {x c : Int} (hx : U x) {b : Nat} (hb : b ≤ 63) (hc0 : 0 ≤ c) (hc1 : c < 2 ^ b) :
    Go.bits .or .u64 (IntKind.u64.wrap (x * 2 ^ b)) c = x * 2 ^ b % 18446744073709551616 + c ∧ x * 2 ^ b = x / 2 ^ (64 - b) * 18446744073709551616 + x * 2 ^ b % 18446744073709551616 ∧ 0 ≤ x / 2 ^ (64 - b) ∧ x / 2 ^ (64 - b) < 2 ^ b ∧ U (x * 2 ^ b % 18446744073709551616 + c) := by
  obtain ⟨hx0, hx1⟩ := hx
  have hp := pow_pos b
  have hp2 := pow_pos (64 - b)
  have hpp := w_split (b := b) (by omega)
  have hb64 : (2 : Int) ^ b ≤ 2 ^ 63 := pow_le_pow hb
  have e1 := mod_up' x (b := b) (by omega)
  have m0 := Int.emod_nonneg x (show (2 : Int) ^ (64 - b) ≠ 0 by omega)
  have m1 := Int.emod_lt_of_pos x hp2
  have hdm := Int.mul_ediv_add_emod x (2 ^ (64 - b))
  have q0 := Int.ediv_nonneg hx0 (show (0 : Int) ≤ 2 ^ (64 - b) by omega)
  have q1 : x / 2 ^ (64 - b) < 2 ^ b := by rw [Int.ediv_lt_iff_lt_mul hp2, Int.mul_comm, hpp]; exact hx1
  have hle : 2 ^ b * (x % 2 ^ (64 - b)) + 2 ^ b ≤ 18446744073709551616 := by
    rw [← hpp, Int.mul_comm (2 ^ (64 - b))]
    have := Int.mul_le_mul_of_nonneg_left (show x % 2 ^ (64 - b) + 1 ≤ 2 ^ (64 - b) by omega) (Int.le_of_lt hp)
    rw [Int.mul_add, Int.mul_one] at this
    exact this
  have hnn : 0 ≤ 2 ^ b * (x % 2 ^ (64 - b)) := Int.mul_nonneg (by omega) m0
  refine ⟨?_, ?_, q0, q1, ?_⟩
  · rw [wu, e1, or_join b _ _ hnn (Int.mul_emod_right _ _) (by omega) hc0 hc1 (by omega)]
  · rw [e1, ← hpp]
    generalize x / 2 ^ (64 - b) = q at *
    generalize x % 2 ^ (64 - b) = r at *
    generalize (2 : Int) ^ (64 - b) = P at *
    generalize (2 : Int) ^ b = Q at *
    rw [← hdm]
    grind
  · rw [e1]; unfold U; omega
theorem nat_Shl_l {a : List Int} (ha : Wl a) {b m : Nat} (hb : b ≤ 63) (hm : m ≤ 100000) (hla : a.length ≤ 900000000) (d : Nat) : ∀ (i : Nat) (out : List Int) (c : Int), i + d = a.length → out.length = m + i → Ws out → 0 ≤ c → c < 2 ^ b → nv out + Wp (m + i) * c = Wp m * (nv (a.take i) * 2 ^ b) →
    Ev (fun k => nat_Shl.l0 k (b : Int) out c a (a.length : Int) i) (dg (Wp m * (nv a * 2 ^ b))) := by
  have hb64 : (2 : Int) ^ b ≤ 2 ^ 63 := pow_le_pow hb
  induction d with
  | zero =>
    intro i out c hi hlo hwo h0 h1 he
    refine Ev.step (fun k => nat_Shl.l0.eq_2 ..) ?_
    refine Ev.ifn (by omega) (Ev.ifp (by omega) ?_)
    rw [List.take_of_length_le (by omega)] at he
    rw [← he, ← hlo, ← nv_snoc]
    exact Ev.bind (nat_Trim_c ⟨Wl_snoc hwo (by unfold U; omega), by simp; omega⟩) (Ev.same rfl)
  | succ d ih =>
    intro i out c hi hlo hwo h0 h1 he
    have hx := U_rd ha.1 (i : Int)
    obtain ⟨w1, w2, w3, w4, w5⟩ := shl_word hx hb h0 h1
    refine Ev.step (fun k => nat_Shl.l0.eq_2 ..) ?_
    refine Ev.ifp (by omega) (Ev.ifp (by omega) (Ev.ifp (by omega) (Ev.ifp (by omega) ?_)))
    have e : wrap64 ((i : Int) + 1) = ((i + 1 : Nat) : Int) := by rw [w64_id (by omega) (by omega)]; omega
    have e63 : (63 - (b : Int)).toNat = 63 - b := by omega
    rw [e, Int.toNat_natCast, e63, w1, div_div_pow _ hb]
    refine ih (i + 1) _ _ (by omega) (by rw [List.length_append, hlo]; rfl) (Wl_snoc hwo w5) w3 w4 ?_
    rw [nv_snoc, hlo, nv_take_succ (by omega), show m + (i + 1) = m + i + 1 by omega, Wp_succ]
    have hwa := Wp_add m i
    generalize rd a (i : Int) / 2 ^ (64 - b) = q at *
    generalize rd a (i : Int) * 2 ^ b % 18446744073709551616 = r at *
    rw [Int.add_mul, Int.mul_add (Wp m), ← he]
    have : Wp i * rd a (i : Int) * 2 ^ b = Wp i * (q * 18446744073709551616 + r) := by rw [Int.mul_assoc, w2]
    rw [this, hwa]
    grind
theorem nat_Shl_c {a : List Int} (ha : Wl a) (hla : a.length ≤ 900000000) (n : Int) : Ev (fun k => nat_Shl.f k a n) (dg (nv a * 2 ^ shn n)) := by
  have hs := shn_le n
  obtain ⟨b, m, hb, hm, hbm⟩ : ∃ b m : Nat, b ≤ 63 ∧ m ≤ 1024 ∧ shn n = 64 * m + b := ⟨shn n % 64, shn n / 64, by omega, by omega, by omega⟩
  have e1 : mn (mx n 0) 65536 / 64 = (m : Int) := by rw [shn_eq]; omega
  have e2 : mn (mx n 0) 65536 % 64 = (b : Int) := by rw [shn_eq]; omega
  unfold nat_Shl.f
  rw [e1, e2]
  have e3 : wrap64 (wrap64 ((m : Int) + (a.length : Int)) + 1) = (m : Int) + (a.length : Int) + 1 := by
    rw [w64_id (n := (m : Int) + (a.length : Int)) (by omega) (by omega), w64_id (by omega) (by omega)]
  rw [e3]
  refine Ev.ifp (by omega) (Ev.ifp (by omega) (Ev.ifp (by omega) ?_))
  rw [Int.toNat_natCast]
  refine (nat_Shl_l (m := m) ha hb (by omega) hla a.length 0 (List.replicate m 0) 0 (by omega) (by simp) (Ws_zeros _) (by omega) (pow_pos b) ?_).eqr ?_
  · rw [nv_zeros]; simp [nv]
  · rw [hbm, Int.pow_add, ← Wp_two]
    congr 1
    grind
/-- A word moved down, with what comes in from the next one. -/
theorem shr_word {y z T : Int} (hy : U y) (hz : U z) {b : Nat} (hb : b ≤ 63) (hT : ∃ t, T = z + 18446744073709551616 * t) :
    Go.bits .or .u64 (y / 2 ^ b) (IntKind.u64.wrap (IntKind.u64.wrap (z * 2) * 2 ^ (63 - b))) = y / 2 ^ b + 2 ^ (64 - b) * (z % 2 ^ b) ∧ U (y / 2 ^ b + 2 ^ (64 - b) * (z % 2 ^ b)) ∧ (y + 18446744073709551616 * T) / 2 ^ b = y / 2 ^ b + 2 ^ (64 - b) * (z % 2 ^ b) + 18446744073709551616 * (T / 2 ^ b) := by
  obtain ⟨hy0, hy1⟩ := hy
  obtain ⟨hz0, hz1⟩ := hz
  have hp := pow_pos b
  have hp2 := pow_pos (64 - b)
  have hpp := w_split (b := b) (by omega)
  have m0 := Int.emod_nonneg z (show (2 : Int) ^ b ≠ 0 by omega)
  have m1 := Int.emod_lt_of_pos z hp
  have q0 := Int.ediv_nonneg hy0 (show (0 : Int) ≤ 2 ^ b by omega)
  have q1 : y / 2 ^ b < 2 ^ (64 - b) := by rw [Int.ediv_lt_iff_lt_mul hp, hpp]; exact hy1
  have hle : 2 ^ (64 - b) * (z % 2 ^ b) + 2 ^ (64 - b) ≤ 18446744073709551616 := by
    rw [← hpp]
    have := Int.mul_le_mul_of_nonneg_left (show z % 2 ^ b + 1 ≤ 2 ^ b by omega) (Int.le_of_lt hp2)
    rw [Int.mul_add, Int.mul_one] at this
    exact this
  have hnn : 0 ≤ 2 ^ (64 - b) * (z % 2 ^ b) := Int.mul_nonneg (by omega) m0
  have hsh : IntKind.u64.wrap (IntKind.u64.wrap (z * 2) * 2 ^ (63 - b)) = 2 ^ (64 - b) * (z % 2 ^ b) := by
    rw [wu, wu, mul_mod_left, ← mod_up z (b := b) (by omega), Int.mul_assoc, show (2 : Int) * 2 ^ (63 - b) = 2 ^ (64 - b) by rw [show 64 - b = (63 - b) + 1 by omega, Int.pow_succ, Int.mul_comm]]
  refine ⟨?_, by unfold U; omega, ?_⟩
  · rw [hsh, or_comm _ _ q0 (by omega) hnn (by omega), or_join (64 - b) _ _ hnn (Int.mul_emod_right _ _) (by omega) q0 q1 (by omega)]
    omega
  · obtain ⟨t, ht⟩ := hT
    have hTm : T % 2 ^ b = z % 2 ^ b := by
      rw [ht, ← hpp, show z + 2 ^ (64 - b) * 2 ^ b * t = z + 2 ^ b * (2 ^ (64 - b) * t) by grind, Int.add_mul_emod_self_left]
    have hTd := Int.mul_ediv_add_emod T (2 ^ b)
    have e : y + 18446744073709551616 * T = y + 2 ^ b * (2 ^ (64 - b) * T) := by rw [← hpp]; grind
    rw [e, Int.add_mul_ediv_left _ _ (by omega)]
    conv => lhs; rhs; rw [← hTd, hTm]
    rw [← hpp]
    grind
theorem shr_word0 {y T : Int} (hy : U y) {b : Nat} (hb : b ≤ 63) (hT : T = 0) : Go.bits .or .u64 (y / 2 ^ b) 0 = y / 2 ^ b ∧ U (y / 2 ^ b) ∧ (y + 18446744073709551616 * T) / 2 ^ b = y / 2 ^ b + 18446744073709551616 * (T / 2 ^ b) := by
  have h := shr_word (T := 0) hy (z := 0) (by unfold U; omega) hb ⟨0, by omega⟩
  simp only [Int.zero_mul, Int.zero_emod, Int.mul_zero, Int.add_zero, Int.zero_ediv] at h
  subst hT
  refine ⟨?_, h.2.1, by simp⟩
  have h1 := h.1
  rw [wu, wu] at h1
  simpa using h1
theorem drop_rd {l : List Int} {i : Nat} (h : i < l.length) : l.drop i = rd l (i : Int) :: l.drop (i + 1) := by
  rw [List.drop_eq_getElem_cons h]
  unfold rd
  rw [Int.toNat_natCast, List.getD_eq_getElem?_getD, List.getElem?_eq_getElem h]
  rfl
theorem nat_Shr_l {a : List Int} (ha : Wl a) {b m : Nat} (hb : b ≤ 63) (d : Nat) : ∀ (i : Nat) (out : List Int), i + d = a.length → m ≤ i → out.length = i - m → Ws out → nv out + Wp (i - m) * (nv (a.drop i) / 2 ^ b) = nv (a.drop m) / 2 ^ b →
    Ev (fun k => nat_Shr.l0 k a (b : Int) out i) (dg (nv (a.drop m) / 2 ^ b)) := by
  have hal := ha.2
  induction d with
  | zero =>
    intro i out hi hmi hlo hwo he
    refine Ev.step (fun k => nat_Shr.l0.eq_2 ..) ?_
    refine Ev.ifn (by omega) ?_
    rw [List.drop_eq_nil_of_le (show a.length ≤ i by omega)] at he
    simp [nv] at he
    rw [← he]
    exact Ev.bind (nat_Trim_c ⟨hwo, by omega⟩) (Ev.same rfl)
  | succ d ih =>
    intro i out hi hmi hlo hwo he
    have hx := U_rd ha.1 (i : Int)
    rw [drop_rd (by omega), nv_cons] at he
    have HE := Hd.mk he
    clear he
    have hsub := sub_succ_of hmi
    have e : wrap64 ((i : Int) + 1) = ((i + 1 : Nat) : Int) := by rw [w64_id (by omega) (by omega)]; omega
    have e63 : (63 - (b : Int)).toNat = 63 - b := by omega
    refine Ev.step (fun k => nat_Shr.l0.eq_2 ..) ?_
    refine Ev.ifp (by omega) ?_
    rw [e, Int.toNat_natCast, e63]
    by_cases hn : ((i + 1 : Nat) : Int) < (a.length : Int)
    · refine Ev.ifp hn (Ev.ifp (by omega) (Ev.ifp (by omega) (Ev.ifp (by omega) ?_)))
      obtain ⟨w1, w2, w3'⟩ := shr_word (T := nv (a.drop (i + 1))) hx (U_rd ha.1 ((i + 1 : Nat) : Int)) hb ⟨nv (a.drop (i + 1 + 1)), by rw [drop_rd (show i + 1 < a.length by omega), nv_cons]⟩
      have W3 := Hd.mk w3'
      clear w3'
      rw [w1]
      refine ih (i + 1) _ (by omega) (by omega) (by rw [List.length_append, hlo, hsub]; rfl) (Wl_snoc hwo w2) ?_
      have he := HE.out
      rw [W3.out] at he
      rw [nv_snoc, hlo, hsub, Wp_succ, ← he]
      grind
    · refine Ev.ifn hn (Ev.ifp (by omega) (Ev.ifp (by omega) ?_))
      have hz : nv (a.drop (i + 1)) = 0 := by rw [List.drop_eq_nil_of_le (by omega)]; rfl
      obtain ⟨w1, w2, w3'⟩ := shr_word0 hx hb hz
      have W3 := Hd.mk w3'
      clear w3'
      rw [w1]
      refine ih (i + 1) _ (by omega) (by omega) (by rw [List.length_append, hlo, hsub]; rfl) (Wl_snoc hwo w2) ?_
      have he := HE.out
      rw [W3.out] at he
      rw [nv_snoc, hlo, hsub, Wp_succ, ← he]
      grind
theorem nv_div_Wp {a : List Int} (ha : Ws a) (m : Nat) : nv a / Wp m = nv (a.drop m) := by
  have h1 := nv_split a m
  have h2 := nv_lt (Ws_take ha m)
  have h3 := nv_nonneg (Ws_take ha m)
  have h4 := Wp_pos m
  rw [List.length_take] at h2
  rcases Nat.lt_or_ge m a.length with h | h
  · rw [Nat.min_eq_left (by omega)] at h1 h2
    rw [h1, Int.add_mul_ediv_left _ _ (by omega), Int.ediv_eq_zero_of_lt h3 h2, Int.zero_add]
  · have h5 := nv_lt ha
    have h6 := Wp_le h
    rw [List.drop_eq_nil_of_le h, Int.ediv_eq_zero_of_lt (nv_nonneg ha) (by omega)]
    rfl
theorem nat_Shr_c {a : List Int} (ha : Wl a) {n : Int} (hn : n ≤ 9223372036854775807) : Ev (fun k => nat_Shr.f k a n) (dg (nv a / 2 ^ n.toNat)) := by
  have hal := ha.2
  have hmx : mx n 0 = (n.toNat : Int) := by unfold mx; split <;> omega
  obtain ⟨b, m, hb, hbm⟩ : ∃ b m : Nat, b ≤ 63 ∧ n.toNat = 64 * m + b := ⟨n.toNat % 64, n.toNat / 64, by omega, by omega⟩
  have e1 : wrap64 ((n.toNat : Int) / 64) = (m : Int) := by rw [w64_id (by omega) (by omega)]; omega
  have e2 : (n.toNat : Int) % 64 = (b : Int) := by omega
  have hdiv : nv a / 2 ^ n.toNat = nv (a.drop m) / 2 ^ b := by
    have hp := Wp_pos m
    rw [hbm, Int.pow_add, ← Wp_two, ← Int.ediv_ediv_of_nonneg (by omega), nv_div_Wp ha.1]
  unfold nat_Shr.f
  rw [hmx, e1, e2, hdiv]
  by_cases h : (m : Int) ≥ (a.length : Int)
  · refine Ev.ifp h (Ev.same ?_)
    rw [List.drop_eq_nil_of_le (by omega)]
    simp [nv, dg_zero]
  · refine Ev.ifn h ?_
    rw [w64_id (by omega) (by omega)]
    refine Ev.ifp (by omega) (Ev.ifp (by omega) ?_)
    refine nat_Shr_l ha hb (a.length - m) m [] (by omega) (by omega) (by simp) Ws_nil ?_
    simp [nv, Wp_zero]

/-! ### Bits -/
theorem bl_top_word {l : List Int} (h : Ws l) {n : Nat} (hn : (dg (nv l)).length = n + 1) : bl (nv l) = 64 * n + bl (rd l (n : Int)) ∧ 0 < rd l (n : Int) := by
  have h0 := nv_nonneg h
  have hle := dg_len_list h
  have h1 := nv_take_dg h
  rw [hn, nv_take_succ (by omega)] at h1
  have h2 := nv_lt (Ws_take h n)
  have h3 := nv_nonneg (Ws_take h n)
  rw [List.length_take, Nat.min_eq_left (by omega)] at h2
  have hp := Wp_pos n
  have hpos : 0 < nv l := by
    rcases (show nv l = 0 ∨ 0 < nv l by omega) with h4 | h4
    · rw [h4] at hn; simp [dg_zero] at hn
    · exact h4
  have h5 := dg_len_lt hpos
  rw [hn] at h5
  have hu := U_rd h (n : Int)
  have hr : 1 ≤ rd l (n : Int) := by
    rcases (show rd l (n : Int) ≤ 0 ∨ 1 ≤ rd l (n : Int) by omega) with h6 | h6
    · have : Wp n * rd l (n : Int) ≤ 0 := Int.mul_nonpos_of_nonneg_of_nonpos (by omega) h6
      simp at h5
      omega
    · exact h6
  have hq : nv l / 2 ^ (64 * n) = rd l (n : Int) := by
    rw [← Wp_two, ← h1, Int.add_mul_ediv_left _ _ (by omega), Int.ediv_eq_zero_of_lt h3 h2, Int.zero_add]
  have h7 : 2 ^ (64 * n) ≤ nv l := by rw [← Wp_two]; simpa using h5
  refine ⟨?_, by omega⟩
  rw [bl_shr h7, hq]
  omega
theorem nat_Bits_c {l : List Int} (h : Wl l) : Ev (fun k => nat_Bits.f k l) (bl (nv l)) := by
  have hl := h.2
  have hle := dg_len_list h.1
  have h0 := nv_nonneg h.1
  refine Ev.bind (nat_size_c h) ?_
  by_cases hz : (dg (nv l)).length = 0
  · refine Ev.ifp (by omega) (Ev.same ?_)
    rw [(dg_len_zero h0).1 hz, bl_zero]
  · obtain ⟨n, hn⟩ : ∃ n, (dg (nv l)).length = n + 1 := ⟨(dg (nv l)).length - 1, by omega⟩
    obtain ⟨hb, hr⟩ := bl_top_word h.1 hn
    have e : wrap64 (((dg (nv l)).length : Int) - 1) = (n : Int) := by rw [w64_id (by omega) (by omega)]; omega
    have hu := U_rd h.1 (n : Int)
    have hb2 := bl_64 hu.2
    have hb3 := bl_nonneg (rd l (n : Int))
    refine Ev.ifn (by omega) ?_
    rw [e]
    refine Ev.ifp (by omega) (Ev.ifp (by omega) (Ev.bind (limb_Len_c hu) (Ev.same ?_)))
    rw [hb, w64_id (n := 64 * (n : Int)) (by omega) (by omega), w64_id (by omega) (by omega)]
/-- Has a number a bit? -/
def bitI (x i : Int) : Bool := decide (0 ≤ i) && decide (x / 2 ^ i.toNat % 2 = 1)
theorem bit_list {l : List Int} (h : Ws l) (i : Nat) : nv l / 2 ^ i % 2 = rd l ((i / 64 : Nat) : Int) / 2 ^ (i % 64) % 2 := by
  have e : i = 64 * (i / 64) + i % 64 := by omega
  have hp := Wp_pos (i / 64)
  conv => lhs; rw [e, Int.pow_add, ← Wp_two, ← Int.ediv_ediv_of_nonneg (Int.le_of_lt hp), nv_div_Wp h]
  rcases Nat.lt_or_ge (i / 64) l.length with h1 | h1
  · rw [drop_rd h1, nv_cons]
    have e2 : (18446744073709551616 : Int) = 2 ^ (i % 64) * (2 ^ (63 - i % 64) * 2) := by
      rw [show (2 : Int) ^ (63 - i % 64) * 2 = 2 ^ (64 - i % 64) by rw [show 64 - i % 64 = (63 - i % 64) + 1 by omega, Int.pow_succ], ← Int.pow_add, show i % 64 + (64 - i % 64) = 64 by omega]; rfl
    have hp2 := pow_pos (i % 64)
    rw [e2, Int.mul_assoc, Int.add_mul_ediv_left _ _ (by omega), show (2 : Int) ^ (63 - i % 64) * 2 * nv (l.drop (i / 64 + 1)) = 2 * (2 ^ (63 - i % 64) * nv (l.drop (i / 64 + 1))) by grind, Int.add_mul_emod_self_left]
  · rw [List.drop_eq_nil_of_le h1]
    unfold rd
    rw [List.getD_eq_getElem?_getD, Int.toNat_natCast, List.getElem?_eq_none h1]
    simp [nv]
theorem word_bit {x : Int} (h : U x) (i : Nat) (hi : i < 64) : (Go.bits .and .u64 (shr .u64 x (i : Int)) 1 == 1) = decide (x / 2 ^ i % 2 = 1) := by
  have hr := div_pow_range h i
  rw [shr_u _ _ (by omega), Int.toNat_natCast, and1 _ hr.1 (by unfold U at h; omega)]
  by_cases hb : x / 2 ^ i % 2 = 1 <;> simp [hb]
/-- A number's bit, as it is looked up. -/
def bitF (l0 : List Int) (a1 : Int) : Option (Bool) := if a1 ≥ 0 then (if (wrap64 (Int.tdiv a1 64)) < (l0.length : Int) then (if 0 ≤ (wrap64 (Int.tdiv a1 64)) then (if 0 ≤ (Int.tmod a1 64) then (some ((Go.bits .and .u64 (shr .u64 (rd l0 (wrap64 (Int.tdiv a1 64))) (Int.tmod a1 64)) 1) == 1)) else (none)) else (none)) else (some false)) else (some false)
theorem bitF_c {l : List Int} (h : Wl l) {i : Int} (hi : i ≤ 9223372036854775807) : bitF l i = some (bitI (nv l) i) := by
  have hl := h.2
  unfold bitF bitI
  by_cases h0 : i ≥ 0
  · obtain ⟨n, rfl⟩ := Int.eq_ofNat_of_zero_le h0
    have hb := bit_list h.1 n
    rw [if_pos h0, Int.tdiv_eq_ediv_of_nonneg h0, Int.tmod_eq_emod_of_nonneg h0, w64_id (by omega) (by omega), Int.toNat_natCast, hb]
    have e1 : (n : Int) / 64 = ((n / 64 : Nat) : Int) := by omega
    have e2 : (n : Int) % 64 = ((n % 64 : Nat) : Int) := by omega
    rw [e1, e2]
    by_cases h1 : ((n / 64 : Nat) : Int) < (l.length : Int)
    · rw [if_pos h1, if_pos (by omega), if_pos (by omega), word_bit (U_rd h.1 _) _ (by omega)]
      simp
    · rw [if_neg h1]
      have : rd l ((n / 64 : Nat) : Int) = 0 := by
        unfold rd
        rw [List.getD_eq_getElem?_getD, Int.toNat_natCast, List.getElem?_eq_none (by omega)]
        rfl
      rw [this]
      simp
  · rw [if_neg h0]
    simp; omega
theorem nat_Bit_c {l : List Int} (h : Wl l) {i : Int} (hi : i ≤ 9223372036854775807) : nat_Bit.f l i = some (bitI (nv l) i) := bitF_c h hi
/-- How often a number can be halved: found by looking. -/
def tzF : Nat → Int → Int
  | 0, _ => 0
  | k + 1, x => if x % 2 = 1 then 0 else 1 + tzF k (x / 2)
def tz (x : Int) : Int := if x ≤ 0 then 0 else tzF x.toNat x
theorem tzF_spec : ∀ (k : Nat) (x : Int), 0 < x → x.toNat ≤ k → ∃ n : Nat, tzF k x = n ∧ x / 2 ^ n % 2 = 1 ∧ ∀ j, j < n → x / 2 ^ j % 2 = 0
  | 0, x, h, hk => by omega
  | k + 1, x, h, hk => by
    unfold tzF
    by_cases h1 : x % 2 = 1
    · exact ⟨0, by rw [if_pos h1]; rfl, by simpa using h1, fun j hj => by omega⟩
    · obtain ⟨n, e, h2, h3⟩ := tzF_spec k (x / 2) (by omega) (by omega)
      have hd : ∀ j : Nat, x / 2 ^ (j + 1) = x / 2 / 2 ^ j := fun j => by
        rw [Int.ediv_ediv_of_nonneg (by omega), Int.pow_succ, Int.mul_comm]
      refine ⟨n + 1, by rw [if_neg h1, e]; omega, by rw [hd]; exact h2, fun j hj => ?_⟩
      cases j with
      | zero => rw [Int.pow_zero, Int.ediv_one]; omega
      | succ j => rw [hd]; exact h3 j (by omega)
theorem tz_spec {x : Int} (h : 0 < x) : ∃ n : Nat, tz x = n ∧ x / 2 ^ n % 2 = 1 ∧ ∀ j, j < n → x / 2 ^ j % 2 = 0 := by
  unfold tz
  rw [if_neg (by omega)]
  exact tzF_spec _ x h (Nat.le_refl _)
theorem tz_lt {x : Int} (h : 0 < x) : tz x < bl x := by
  obtain ⟨n, e, h1, _⟩ := tz_spec h
  rcases Int.lt_or_le (tz x) (bl x) with h2 | h2
  · exact h2
  · have h3 := bl_lt x
    have h4 := pow_le_pow (a := (bl x).toNat) (b := n) (by omega)
    rw [Int.ediv_eq_zero_of_lt (by omega) (by omega)] at h1
    omega
theorem nat_Even_l {l : List Int} (h : Wl l) {n : Nat} (he : tz (nv l) = n) (h1 : nv l / 2 ^ n % 2 = 1) (h2 : ∀ j, j < n → nv l / 2 ^ j % 2 = 0) {len : Int} (hlen : (n : Int) < len) (hn : n ≤ 100000000000) (d : Nat) : ∀ i : Nat, i + d = n → Ev (fun k => nat_Even.l0 k l len i) (n : Int) := by
  induction d with
  | zero =>
    intro i hi
    obtain rfl : i = n := by omega
    refine Ev.step (fun k => nat_Even.l0.eq_2 ..) ?_
    refine Ev.ifp hlen (Ev.bindc (nat_Bit_c h (by omega)) ?_)
    refine Ev.ifp ?_ (Ev.same rfl)
    unfold bitI
    rw [Int.toNat_natCast, h1]
    simp
  | succ d ih =>
    intro i hi
    refine Ev.step (fun k => nat_Even.l0.eq_2 ..) ?_
    refine Ev.ifp (by omega) (Ev.bindc (nat_Bit_c h (by omega)) ?_)
    refine Ev.ifn ?_ ?_
    · unfold bitI
      rw [Int.toNat_natCast, h2 i (by omega)]
      simp
    · have e : wrap64 ((i : Int) + 1) = ((i + 1 : Nat) : Int) := by rw [w64_id (by omega) (by omega)]; omega
      rw [e]
      exact ih (i + 1) (by omega)
theorem nat_Even_c {l : List Int} (h : Wl l) : Ev (fun k => nat_Even.f k l) (tz (nv l)) := by
  have hl := h.2
  have hb := bl_nv h.1
  have h0 := nv_nonneg h.1
  refine Ev.bind (nat_Bits_c h) ?_
  rcases (show nv l = 0 ∨ 0 < nv l by omega) with hz | hp
  · rw [hz]
    refine Ev.step (fun k => nat_Even.l0.eq_2 ..) ?_
    exact Ev.ifn (by rw [bl_zero]; omega) (Ev.same rfl)
  · obtain ⟨n, e, h1, h2⟩ := tz_spec hp
    have := tz_lt hp
    rw [e]
    exact nat_Even_l h e h1 h2 (by omega) (by omega) n 0 (by omega)
end Go.Proofs.Ytbpggonjcnakgaa.M
end
section
namespace Go.Proofs.Ytbpggonjcnakgaa.M
open Go.RowKit Go.Proofs.Ytbpggonjcnakgaa.P Go.Proofs.YtbpggonjcnakgaaW.PrintWords Go.Proofs.YtbpggonjcnakgaaW.PrintLast Go.Proofs.YtbpggonjcnakgaaW.PrintMore
set_option linter.unusedVariables false

theorem ref02_Size_eq (l : List Int) : ∀ (k : Nat) (i : Int), gradineref02_Size.l0 k l i = nat_size.l0 k l i := by
  intro k
  induction k with
  | zero => intros; rfl
  | succ k ih => intros; simp only [gradineref02_Size.l0, nat_size.l0, ih]
theorem ref02_Size_c {l : List Int} (h : Wl l) : Ev (fun k => gradineref02_Size.f k l) ((dg (nv l)).length : Int) := Ev.congr (fun k => ref02_Size_eq ..) (nat_size_c h)
theorem ref02_Trim_l {l : List Int} (hl : l.length ≤ 1000000000) {n : Nat} (hn : n ≤ l.length) (d : Nat) : ∀ i : Nat, i + d = n → Ev (fun k => gradineref02_Trim.l0 k l (l.take i) (n : Int) i) (l.take n) := by
  induction d with
  | zero =>
    intro i hi
    refine Ev.step (fun k => gradineref02_Trim.l0.eq_2 ..) ?_
    obtain rfl : i = n := by omega
    exact Ev.ifn (by omega) (Ev.same rfl)
  | succ d ih =>
    intro i hi
    have e : wrap64 ((i : Int) + 1) = ((i + 1 : Nat) : Int) := by rw [w64_id (by omega) (by omega)]; omega
    refine Ev.step (fun k => gradineref02_Trim.l0.eq_2 ..) ?_
    refine Ev.ifp (by omega) (Ev.ifp (by omega) (Ev.ifp (by omega) (Ev.ifp (by rw [List.length_take]; omega) ?_)))
    rw [e, ← take_rd (by omega)]
    exact ih (i + 1) (by omega)
theorem ref02_Trim_c {l : List Int} (h : Wl l) : Ev (fun k => gradineref02_Trim.f k l) (dg (nv l)) := by
  have h1 := dg_len_list h.1
  refine Ev.bind (ref02_Size_c h) ?_
  have := ref02_Trim_l h.2 h1 (dg (nv l)).length 0 (by omega)
  rw [take_dg h.1] at this
  exact this
theorem rd_out {l : List Int} {i : Nat} (h : l.length ≤ i) : rd l (i : Int) = 0 := by
  unfold rd
  rw [List.getD_eq_getElem?_getD, Int.toNat_natCast, List.getElem?_eq_none h]
  rfl
theorem ref02_at_c (l : List Int) (i : Nat) : gradineref02_at.f l (i : Int) = some (rd l (i : Int)) := by
  unfold gradineref02_at.f
  rw [if_neg (by omega)]
  by_cases h : (i : Int) ≥ (l.length : Int)
  · rw [if_pos h, rd_out (by omega)]
  · rw [if_neg h, if_pos (by omega), if_pos (by omega)]
theorem nv_take_next (l : List Int) (i : Nat) : nv (l.take (i + 1)) = nv (l.take i) + Wp i * rd l (i : Int) := by
  rcases Nat.lt_or_ge i l.length with h | h
  · exact nv_take_succ h
  · rw [rd_out h, take_zero_of_ge h, Int.mul_zero, Int.add_zero]
theorem nv_take_lt {l : List Int} (h : Ws l) (i : Nat) : nv (l.take i) < Wp i := by
  have h1 := nv_lt (Ws_take h i)
  have h2 := Wp_le (List.length_take_le i l)
  omega
theorem take_lt' {a b : List Int} (ha : Ws a) (hb : Ws b) {i : Nat} (hlt : rd a (i : Int) < rd b (i : Int)) : nv (a.take (i + 1)) < nv (b.take (i + 1)) := by
  rw [nv_take_next, nv_take_next]
  have c1 := nv_take_lt ha i
  have c2 := nv_nonneg (Ws_take hb i)
  have c3 := Wp_pos i
  have c4 := Int.mul_le_mul_of_nonneg_left (show rd a (i : Int) + 1 ≤ rd b (i : Int) by omega) (Int.le_of_lt c3)
  rw [Int.mul_add, Int.mul_one] at c4
  omega
theorem cmpI_add (x y z : Int) : cmpI x y = cmpI (x + z) (y + z) := by unfold cmpI; split <;> split <;> first | omega | (split <;> first | omega | (split <;> omega))
theorem ref02_Cmp_l {a b : List Int} (ha : Ws a) (hb : Ws b) (n : Nat) (hn : n ≤ 2000000000) : Ev (fun k => gradineref02_Cmp.l0 k a b ((n : Int) - 1)) (cmpI (nv (a.take n)) (nv (b.take n))) := by
  induction n with
  | zero =>
    refine Ev.step (fun k => gradineref02_Cmp.l0.eq_2 ..) ?_
    exact Ev.ifn (by omega) (Ev.same rfl)
  | succ n ih =>
    have e : ((n + 1 : Nat) : Int) - 1 = (n : Int) := by omega
    rw [e]
    refine Ev.step (fun k => gradineref02_Cmp.l0.eq_2 ..) ?_
    refine Ev.ifp (by omega) (Ev.bindc (ref02_at_c a n) (Ev.bindc (ref02_at_c b n) ?_))
    by_cases c1 : rd a (n : Int) < rd b (n : Int)
    · exact Ev.ifp c1 (Ev.same (by rw [cmpI_lt (take_lt' ha hb c1)]))
    · refine Ev.ifn c1 ?_
      by_cases c2 : rd a (n : Int) > rd b (n : Int)
      · exact Ev.ifp c2 (Ev.same (by rw [cmpI_gt (take_lt' hb ha c2)]))
      · refine Ev.ifn c2 ?_
        rw [w64_id (by omega) (by omega)]
        have e2 : rd a (n : Int) = rd b (n : Int) := by omega
        refine (ih (by omega)).eqr ?_
        rw [nv_take_next, nv_take_next, e2]
        exact cmpI_add ..
theorem ref02_Cmp_c {a b : List Int} (ha : Wl a) (hb : Wl b) : Ev (fun k => gradineref02_Cmp.f k a b) (cmpI (nv a) (nv b)) := by
  have hal := ha.2
  have hbl := hb.2
  have hm : mx (a.length : Int) (b.length : Int) = ((max a.length b.length : Nat) : Int) := by unfold mx; split <;> omega
  unfold gradineref02_Cmp.f
  rw [hm, w64_id (by omega) (by omega)]
  refine (ref02_Cmp_l ha.1 hb.1 (max a.length b.length) (by omega)).eqr ?_
  rw [List.take_of_length_le (by omega), List.take_of_length_le (by omega)]
theorem ref02_Bits_c {l : List Int} (h : Wl l) : Ev (fun k => gradineref02_Bits.f k l) (bl (nv l)) := by
  have hl := h.2
  have hle := dg_len_list h.1
  have h0 := nv_nonneg h.1
  refine Ev.bind (ref02_Size_c h) ?_
  by_cases hz : (dg (nv l)).length = 0
  · refine Ev.ifp (by omega) (Ev.same ?_)
    rw [(dg_len_zero h0).1 hz, bl_zero]
  · obtain ⟨n, hn⟩ : ∃ n, (dg (nv l)).length = n + 1 := ⟨(dg (nv l)).length - 1, by omega⟩
    obtain ⟨hb, hr⟩ := bl_top_word h.1 hn
    have e : wrap64 (((dg (nv l)).length : Int) - 1) = (n : Int) := by rw [w64_id (by omega) (by omega)]; omega
    have hu := U_rd h.1 (n : Int)
    have hb2 := bl_64 hu.2
    have hb3 := bl_nonneg (rd l (n : Int))
    refine Ev.ifn (by omega) ?_
    rw [e]
    refine Ev.ifp (by omega) (Ev.ifp (by omega) (Ev.bind (ref01_Len_c hu) (Ev.same ?_)))
    rw [hb, w64_id (n := 64 * ((dg (nv l)).length : Int)) (by omega) (by omega), w64_id (n := 64 * ((dg (nv l)).length : Int) - 64) (by omega) (by omega), w64_id (by omega) (by omega)]
    congr 1; omega
theorem ref02_Bit_eq (l : List Int) {i : Int} (hi : i ≤ 9223372036854775807) : gradineref02_Bit.f l i = bitF l i := by
  unfold gradineref02_Bit.f bitF
  by_cases h : i ≥ 0
  · rw [if_pos h, if_pos h, Int.tmod_eq_emod_of_nonneg h, wu_id (n := i % 64) (by omega) (by omega)]
  · rw [if_neg h, if_neg h]
theorem ref02_Bit_c {l : List Int} (h : Wl l) {i : Int} (hi : i ≤ 9223372036854775807) : gradineref02_Bit.f l i = some (bitI (nv l) i) := (ref02_Bit_eq l hi).trans (bitF_c h hi)
theorem ref02_Even_l {l : List Int} (h : Wl l) {n : Nat} (h1 : nv l / 2 ^ n % 2 = 1) (h2 : ∀ j, j < n → nv l / 2 ^ j % 2 = 0) (hn : n ≤ 100000000000) (d : Nat) : ∀ i : Nat, i + d = n → Ev (fun k => gradineref02_Even.l0 k l i) (n : Int) := by
  induction d with
  | zero =>
    intro i hi
    obtain rfl : i = n := by omega
    refine Ev.step (fun k => gradineref02_Even.l0.eq_2 ..) ?_
    refine Ev.bindc (ref02_Bit_c h (by omega)) ?_
    refine Ev.ifp ?_ (Ev.same rfl)
    unfold bitI
    rw [Int.toNat_natCast, h1]
    simp
  | succ d ih =>
    intro i hi
    refine Ev.step (fun k => gradineref02_Even.l0.eq_2 ..) ?_
    refine Ev.bindc (ref02_Bit_c h (by omega)) ?_
    refine Ev.ifn ?_ ?_
    · unfold bitI
      rw [Int.toNat_natCast, h2 i (by omega)]
      simp
    · have e : wrap64 ((i : Int) + 1) = ((i + 1 : Nat) : Int) := by rw [w64_id (by omega) (by omega)]; omega
      rw [e]
      exact ih (i + 1) (by omega)
theorem ref02_Even_c {l : List Int} (h : Wl l) : Ev (fun k => gradineref02_Even.f k l) (tz (nv l)) := by
  have hl := h.2
  have hb := bl_nv h.1
  have h0 := nv_nonneg h.1
  refine Ev.bind (ref02_Size_c h) ?_
  rcases (show nv l = 0 ∨ 0 < nv l by omega) with hz | hp
  · rw [hz]
    exact Ev.ifp rfl (Ev.same rfl)
  · obtain ⟨n, e, h1, h2⟩ := tz_spec hp
    have := tz_lt hp
    refine Ev.ifn (fun h => ?_) ?_
    · have := (dg_len_zero h0).1 (by omega); omega
    · rw [e]
      exact ref02_Even_l h h1 h2 (by omega) n 0 (by omega)

/-! ### Half words -/
def hv : List Int → Int
  | [] => 0
  | x :: l => x + 4294967296 * hv l
theorem hv_cons (x : Int) (l : List Int) : hv (x :: l) = x + 4294967296 * hv l := rfl
def Hs (l : List Int) : Prop := ∀ x ∈ l, 0 ≤ x ∧ x < 4294967296
def Hp (n : Nat) : Int := 4294967296 ^ n
theorem Hp_zero : Hp 0 = 1 := rfl
theorem Hp_succ (n : Nat) : Hp (n + 1) = 4294967296 * Hp n := by unfold Hp; rw [Int.pow_succ, Int.mul_comm]
theorem Hp_pos (n : Nat) : 0 < Hp n := by
  induction n with
  | zero => decide
  | succ n ih => rw [Hp_succ]; omega
theorem Hp_le {a b : Nat} (h : a ≤ b) : Hp a ≤ Hp b := by
  induction b with
  | zero => obtain rfl : a = 0 := by omega
            exact Int.le_refl _
  | succ b ih =>
    rcases (show a = b + 1 ∨ a ≤ b by omega) with h1 | h1
    · rw [h1]; exact Int.le_refl _
    · have := ih h1; have := Hp_pos b; rw [Hp_succ]; omega
theorem Hp_Wp (n : Nat) : Hp (2 * n) = Wp n := by
  induction n with
  | zero => rfl
  | succ n ih => rw [show 2 * (n + 1) = 2 * n + 1 + 1 by omega, Hp_succ, Hp_succ, ih, Wp_succ]; omega
theorem Hs_cons {x : Int} {l : List Int} : Hs (x :: l) ↔ (0 ≤ x ∧ x < 4294967296) ∧ Hs l := by unfold Hs; simp
theorem Hs_app {a b : List Int} : Hs (a ++ b) ↔ Hs a ∧ Hs b := by
  unfold Hs
  simp only [List.mem_append]
  exact ⟨fun h => ⟨fun x hx => h x (.inl hx), fun x hx => h x (.inr hx)⟩, fun h x hx => hx.elim (h.1 x) (h.2 x)⟩
theorem Hs_snoc {a : List Int} {x : Int} (ha : Hs a) (h0 : 0 ≤ x) (h1 : x < 4294967296) : Hs (a ++ [x]) := Hs_app.2 ⟨ha, fun y hy => by simp at hy; rw [hy]; exact ⟨h0, h1⟩⟩
theorem Hs_nil : Hs [] := fun x h => by simp at h
theorem Hs_take {l : List Int} (h : Hs l) (n : Nat) : Hs (l.take n) := fun x hx => h x (List.mem_of_mem_take hx)
theorem Hs_drop {l : List Int} (h : Hs l) (n : Nat) : Hs (l.drop n) := fun x hx => h x (List.mem_of_mem_drop hx)
theorem Hs_Ws {l : List Int} (h : Hs l) : Ws l := fun x hx => ⟨(h x hx).1, by have := (h x hx).2; omega⟩
theorem Hs_rd {l : List Int} (h : Hs l) (i : Int) : 0 ≤ rd l i ∧ rd l i < 4294967296 := by
  unfold rd
  rw [List.getD_eq_getElem?_getD]
  rcases Nat.lt_or_ge i.toNat l.length with hi | hi
  · rw [List.getElem?_eq_getElem hi]; exact h _ (List.getElem_mem hi)
  · rw [List.getElem?_eq_none hi]; simp
theorem hv_app (a b : List Int) : hv (a ++ b) = hv a + Hp a.length * hv b := by
  induction a with
  | nil => simp [hv, Hp_zero]
  | cons x a ih => rw [List.cons_append, List.length_cons, Hp_succ, hv_cons, hv_cons, ih]; grind
theorem hv_one (x : Int) : hv [x] = x := by rw [hv_cons]; show x + 4294967296 * 0 = x; omega
theorem hv_snoc (a : List Int) (x : Int) : hv (a ++ [x]) = hv a + Hp a.length * x := by rw [hv_app, hv_one]
theorem hv_nonneg {l : List Int} (h : Hs l) : 0 ≤ hv l := by
  induction l with
  | nil => exact Int.le_refl 0
  | cons x l ih =>
    have h1 := Hs_cons.1 h
    have h2 := ih h1.2
    rw [hv_cons]; omega
theorem hv_lt {l : List Int} (h : Hs l) : hv l < Hp l.length := by
  induction l with
  | nil => decide
  | cons x l ih =>
    have h1 := Hs_cons.1 h
    have h2 := ih h1.2
    rw [List.length_cons, Hp_succ, hv_cons]; omega
theorem hv_take_next (l : List Int) (i : Nat) : hv (l.take (i + 1)) = hv (l.take i) + Hp i * rd l (i : Int) := by
  rcases Nat.lt_or_ge i l.length with h | h
  · rw [take_rd h, hv_snoc, List.length_take, Nat.min_eq_left (by omega)]
  · rw [rd_out h, take_zero_of_ge h, Int.mul_zero, Int.add_zero]
theorem hv_take_lt {l : List Int} (h : Hs l) (i : Nat) : hv (l.take i) < Hp i := by
  have h1 := hv_lt (Hs_take h i)
  have h2 := Hp_le (List.length_take_le i l)
  omega
theorem hv_split (l : List Int) (i : Nat) : hv l = hv (l.take i) + Hp (min i l.length) * hv (l.drop i) := by
  have := hv_app (l.take i) (l.drop i)
  rw [List.take_append_drop, List.length_take] at this
  exact this
theorem hv_zero_of {r : List Int} (h : Ws r) (h0 : nv r = 0) : hv r = 0 := by
  induction r with
  | nil => rfl
  | cons x r ih =>
    have h1 := Ws_cons.1 h
    have h2 := nv_nonneg h1.2
    unfold U at h1
    rw [nv_cons] at h0
    have := ih h1.2 (by omega)
    rw [hv_cons, this]; omega
/-- A list's half words. -/
def hl : List Int → List Int
  | [] => []
  | x :: l => x % 4294967296 :: x / 4294967296 :: hl l
theorem hl_Hs {l : List Int} (h : Ws l) : Hs (hl l) := by
  induction l with
  | nil => exact Hs_nil
  | cons x l ih =>
    have h1 := Ws_cons.1 h
    unfold U at h1
    exact Hs_cons.2 ⟨by omega, Hs_cons.2 ⟨by omega, ih h1.2⟩⟩
theorem hl_hv (l : List Int) : hv (hl l) = nv l := by
  induction l with
  | nil => rfl
  | cons x l ih => show hv (x % 4294967296 :: x / 4294967296 :: hl l) = _; rw [hv_cons, hv_cons, ih, nv_cons]; omega
theorem hl_len (l : List Int) : (hl l).length = 2 * l.length := by
  induction l with
  | nil => rfl
  | cons x l ih => show (x % 4294967296 :: x / 4294967296 :: hl l).length = _; simp [ih]; omega
theorem hl_app (a b : List Int) : hl (a ++ b) = hl a ++ hl b := by
  induction a with
  | nil => rfl
  | cons x a ih => show x % 4294967296 :: x / 4294967296 :: hl (a ++ b) = _; rw [ih]; rfl
def hh (l : List Int) : List Int := dg (nv (hl l))
theorem hh_spec {l : List Int} (h : Ws l) : Hs (hh l) ∧ hv (hh l) = nv l ∧ (hh l).length ≤ 2 * l.length := by
  have h1 := hl_Hs h
  obtain ⟨r, hr, hz⟩ := dg_prefix (Hs_Ws h1)
  have h2 : Hs (dg (nv (hl l)) ++ r) := hr ▸ h1
  have h3 := Hs_app.1 h2
  refine ⟨h3.1, ?_, ?_⟩
  · have h4 := hv_app (dg (nv (hl l))) r
    rw [← hr, hl_hv, hv_zero_of (Hs_Ws h3.2) hz, Int.mul_zero, Int.add_zero] at h4
    exact h4.symm
  · have := dg_len_list (Hs_Ws h1)
    rw [hl_len] at this
    exact this
theorem ref02_Halves_l {a : List Int} (ha : Wl a) (hla : a.length ≤ 400000000) (d : Nat) : ∀ i : Nat, i + d = a.length → Ev (fun k => gradineref02_Halves.l0 k a (hl (a.take i)) (a.length : Int) i) (hh a) := by
  induction d with
  | zero =>
    intro i hi
    refine Ev.step (fun k => gradineref02_Halves.l0.eq_2 ..) ?_
    refine Ev.ifn (by omega) ?_
    rw [List.take_of_length_le (by omega)]
    exact Ev.bind (ref02_Trim_c ⟨Hs_Ws (hl_Hs ha.1), by rw [hl_len]; omega⟩) (Ev.same rfl)
  | succ d ih =>
    intro i hi
    have hx := U_rd ha.1 (i : Int)
    have e : wrap64 ((i : Int) + 1) = ((i + 1 : Nat) : Int) := by rw [w64_id (by omega) (by omega)]; omega
    have hlen : (hl (a.take i)).length = 2 * i := by rw [hl_len, List.length_take]; omega
    refine Ev.step (fun k => gradineref02_Halves.l0.eq_2 ..) ?_
    refine Ev.ifp (by omega) (Ev.ifp (by omega) (Ev.ifp (by omega) (Ev.ifp (by omega) ?_)))
    refine Ev.bindc rfl (Ev.ifp (by rw [List.length_append, hlen]; simp; omega) ?_)
    unfold U at hx
    rw [e, and32 _ hx.1 hx.2]
    have e2 : hl (a.take i) ++ [rd a (i : Int) % 4294967296] ++ [rd a (i : Int) / 4294967296] = hl (a.take (i + 1)) := by
      rw [take_rd (by omega), hl_app, List.append_assoc]; rfl
    rw [e2]
    exact ih (i + 1) (by omega)
theorem ref02_Halves_c {a : List Int} (ha : Wl a) (hla : a.length ≤ 400000000) : Ev (fun k => gradineref02_Halves.f k a) (hh a) := ref02_Halves_l ha hla a.length 0 (by omega)
theorem ref02_Whole_l {h : List Int} (hh : Hs h) (hl : h.length ≤ 1000000000) (d : Nat) : ∀ (j : Nat) (out : List Int), 2 * j + d ≥ h.length → out.length = j → Ws out → j ≤ 600000000 → nv out = hv (h.take (2 * j)) → Ev (fun k => gradineref02_Whole.l0 k h out ((2 * j : Nat) : Int)) (dg (hv h)) := by
  induction d with
  | zero =>
    intro j out hj hlo hwo hj2 he
    refine Ev.step (fun k => gradineref02_Whole.l0.eq_2 ..) ?_
    refine Ev.ifn (by omega) ?_
    rw [List.take_of_length_le (by omega)] at he
    rw [← he]
    exact Ev.bind (ref02_Trim_c ⟨hwo, by omega⟩) (Ev.same rfl)
  | succ d ih =>
    intro j out hj hlo hwo hj2 he
    refine Ev.step (fun k => gradineref02_Whole.l0.eq_2 ..) ?_
    by_cases hend : ((2 * j : Nat) : Int) < (h.length : Int)
    · have x0 := Hs_rd hh ((2 * j : Nat) : Int)
      have y0 := Hs_rd hh ((2 * j + 1 : Nat) : Int)
      have e1 : wrap64 (((2 * j : Nat) : Int) + 1) = ((2 * j + 1 : Nat) : Int) := by rw [w64_id (by omega) (by omega)]; omega
      have e2 : wrap64 (((2 * j : Nat) : Int) + 2) = ((2 * (j + 1) : Nat) : Int) := by rw [w64_id (by omega) (by omega)]; omega
      have step : ∀ w : Int, w = rd h ((2 * j : Nat) : Int) + 4294967296 * rd h ((2 * j + 1 : Nat) : Int) → Ev (fun k => gradineref02_Whole.l0 k h (out ++ [w]) ((2 * (j + 1) : Nat) : Int)) (dg (hv h)) := by
        intro w hw
        refine ih (j + 1) _ (by omega) (by rw [List.length_append, hlo]; rfl) (Wl_snoc hwo (by unfold U; omega)) (by omega) ?_
        rw [nv_snoc, hlo, he, show 2 * (j + 1) = 2 * j + 1 + 1 by omega, hv_take_next, hv_take_next, Hp_succ, Hp_Wp, hw]
        grind
      refine Ev.ifp hend (Ev.ifp (by omega) ?_)
      rw [e1, e2]
      by_cases hn : ((2 * j + 1 : Nat) : Int) < (h.length : Int)
      · refine Ev.ifp hn (Ev.ifp (by omega) (Ev.ifp (by omega) (step _ ?_)))
        rw [wu_id (by omega) (by omega), or_comm _ _ (by omega) (by omega) (by omega) (by omega), or_join 32 _ _ (by omega) (by omega) (by omega) (by omega) (by omega) (by omega)]
        omega
      · refine Ev.ifn hn (Ev.ifp (by omega) (step _ ?_))
        rw [rd_out (i := 2 * j + 1) (by omega)]
        omega
    · refine Ev.ifn hend ?_
      rw [List.take_of_length_le (by omega)] at he
      rw [← he]
      exact Ev.bind (ref02_Trim_c ⟨hwo, by omega⟩) (Ev.same rfl)
theorem ref02_Whole_c {h : List Int} (hh : Hs h) (hl : h.length ≤ 1000000000) : Ev (fun k => gradineref02_Whole.f k h) (dg (hv h)) := ref02_Whole_l hh hl h.length 0 [] (by omega) rfl Ws_nil (by omega) rfl
theorem ref02_Add_l {x y : List Int} (hx : Hs x) (hy : Hs y) {n : Nat} (hn : n ≤ 900000000) (hxn : x.length < n) (hyn : y.length < n) (d : Nat) : ∀ (i : Nat) (out : List Int) (c : Int), i + d = n → out.length = i → Hs out → 0 ≤ c → c ≤ 1 → hv out + Hp i * c = hv (x.take i) + hv (y.take i) → Ev (fun k => gradineref02_Add.l0 k x y out c (n : Int) i) (dg (hv x + hv y)) := by
  induction d with
  | zero =>
    intro i out c hi hlo hwo h0 h1 he
    refine Ev.step (fun k => gradineref02_Add.l0.eq_2 ..) ?_
    refine Ev.ifn (by omega) ?_
    obtain ⟨m, rfl⟩ : ∃ m, i = m + 1 := ⟨i - 1, by omega⟩
    have b1 := hv_take_lt hx m
    have b2 := hv_take_lt hy m
    have b3 := hv_nonneg hwo
    have hp := Hp_pos m
    rw [List.take_of_length_le (by omega)] at b1 b2
    rw [List.take_of_length_le (by omega), List.take_of_length_le (by omega), Hp_succ] at he
    have hc : c = 0 := by
      rcases (show c = 0 ∨ c = 1 by omega) with h | h
      · exact h
      · subst h; omega
    subst hc
    rw [← he, Int.mul_zero, Int.add_zero]
    exact Ev.bind (ref02_Whole_c hwo (by omega)) (Ev.same rfl)
  | succ d ih =>
    intro i out c hi hlo hwo h0 h1 he
    have HE := Hd.mk he
    clear he
    have x0 := Hs_rd hx (i : Int)
    have y0 := Hs_rd hy (i : Int)
    have e : wrap64 ((i : Int) + 1) = ((i + 1 : Nat) : Int) := by rw [w64_id (by omega) (by omega)]; omega
    refine Ev.step (fun k => gradineref02_Add.l0.eq_2 ..) ?_
    refine Ev.ifp (by omega) (Ev.bindc (ref02_at_c x i) (Ev.bindc (ref02_at_c y i) (Ev.ifp (by omega) ?_)))
    rw [e, wu_id (n := c + rd x (i : Int)) (by omega) (by omega), wu_id (by omega) (by omega), and32 _ (by omega) (by omega)]
    refine ih (i + 1) _ _ (by omega) (by rw [List.length_append, hlo]; rfl) (Hs_snoc hwo (by omega) (by omega)) (by omega) (by omega) ?_
    have he := HE.out
    rw [hv_snoc, hlo, hv_take_next, hv_take_next, Hp_succ]
    have hs : c + rd x (i : Int) + rd y (i : Int) = 4294967296 * ((c + rd x (i : Int) + rd y (i : Int)) / 4294967296) + (c + rd x (i : Int) + rd y (i : Int)) % 4294967296 := by omega
    generalize (c + rd x (i : Int) + rd y (i : Int)) / 4294967296 = q at *
    generalize (c + rd x (i : Int) + rd y (i : Int)) % 4294967296 = r at *
    have hc : c = 4294967296 * q + r - rd x (i : Int) - rd y (i : Int) := by omega
    rw [hc] at he
    grind
theorem ref02_Add_c {a b : List Int} (ha : Wl a) (hb : Wl b) (hla : a.length ≤ 400000000) (hlb : b.length ≤ 400000000) : Ev (fun k => gradineref02_Add.f k a b) (dg (nv a + nv b)) := by
  obtain ⟨a1, a2, a3⟩ := hh_spec ha.1
  obtain ⟨b1, b2, b3⟩ := hh_spec hb.1
  refine Ev.bind (ref02_Halves_c ha hla) (Ev.bind (ref02_Halves_c hb hlb) ?_)
  have hm : wrap64 (mx ((hh a).length : Int) ((hh b).length : Int) + 1) = ((max (hh a).length (hh b).length + 1 : Nat) : Int) := by
    unfold mx
    rw [w64_id (by split <;> omega) (by split <;> omega)]
    split <;> omega
  rw [hm, ← a2, ← b2]
  exact ref02_Add_l a1 b1 (n := max (hh a).length (hh b).length + 1) (by omega) (by omega) (by omega) (max (hh a).length (hh b).length + 1) 0 [] 0 (by omega) rfl Hs_nil (by omega) (by omega) rfl
theorem ref02_Sub_l {x y : List Int} (hx : Hs x) (hy : Hs y) (hge : hv y ≤ hv x) (hn : x.length ≤ 900000000) (d : Nat) : ∀ (i : Nat) (out : List Int) (c : Int), i + d = x.length → out.length = i → Hs out → 0 ≤ c → c ≤ 1 → hv out - Hp i * c = hv (x.take i) - hv (y.take i) → Ev (fun k => gradineref02_Sub.l0 k x y out c (x.length : Int) i) (dg (hv x - hv y)) := by
  induction d with
  | zero =>
    intro i out c hi hlo hwo h0 h1 he
    refine Ev.step (fun k => gradineref02_Sub.l0.eq_2 ..) ?_
    refine Ev.ifn (by omega) ?_
    have hi2 : i = x.length := by omega
    subst hi2
    rw [List.take_length] at he
    have hb2 := hv_split y x.length
    have hn1 := hv_nonneg hwo
    have hn2 := hv_lt hwo
    rw [hlo] at hn2
    have hn3 := hv_nonneg (Hs_take hy x.length)
    have hn4 := hv_nonneg (Hs_drop hy x.length)
    have hn5 := hv_lt hx
    have hp := Hp_pos x.length
    have hz : Hp (min x.length y.length) * hv (y.drop x.length) = 0 := by
      rcases Nat.lt_or_ge x.length y.length with hlt | hgt
      · rw [Nat.min_eq_left (by omega)] at hb2 ⊢
        rcases (show hv (y.drop x.length) = 0 ∨ 1 ≤ hv (y.drop x.length) by omega) with h | h
        · rw [h, Int.mul_zero]
        · have := Int.mul_le_mul_of_nonneg_left h (Int.le_of_lt hp)
          omega
      · rw [List.drop_eq_nil_of_le hgt]; simp [hv]
    have hu : c = 0 := by
      rcases (show c = 0 ∨ c = 1 by omega) with h | h
      · exact h
      · subst h; omega
    subst hu
    have e : hv x - hv y = hv out := by omega
    rw [e]
    exact Ev.bind (ref02_Whole_c hwo (by omega)) (Ev.same rfl)
  | succ d ih =>
    intro i out c hi hlo hwo h0 h1 he
    have HE := Hd.mk he
    clear he
    have x0 := Hs_rd hx (i : Int)
    have y0 := Hs_rd hy (i : Int)
    have e : wrap64 ((i : Int) + 1) = ((i + 1 : Nat) : Int) := by rw [w64_id (by omega) (by omega)]; omega
    refine Ev.step (fun k => gradineref02_Sub.l0.eq_2 ..) ?_
    refine Ev.ifp (by omega) (Ev.ifp (by omega) (Ev.ifp (by omega) (Ev.bindc (ref02_at_c y i) (Ev.ifp (by omega) ?_))))
    have hw : IntKind.u64.wrap (IntKind.u64.wrap (IntKind.u64.wrap (4294967296 + rd x (i : Int)) - rd y (i : Int)) - c) = 4294967296 + rd x (i : Int) - rd y (i : Int) - c := by
      rw [wu, wu, wu]; omega
    rw [e, hw, and32 _ (by omega) (by omega), wu_id (n := 1 - (4294967296 + rd x (i : Int) - rd y (i : Int) - c) / 4294967296) (by omega) (by omega)]
    refine ih (i + 1) _ _ (by omega) (by rw [List.length_append, hlo]; rfl) (Hs_snoc hwo (by omega) (by omega)) (by omega) (by omega) ?_
    have he := HE.out
    rw [hv_snoc, hlo, hv_take_next, hv_take_next, Hp_succ]
    have hs : 4294967296 + rd x (i : Int) - rd y (i : Int) - c = 4294967296 * ((4294967296 + rd x (i : Int) - rd y (i : Int) - c) / 4294967296) + (4294967296 + rd x (i : Int) - rd y (i : Int) - c) % 4294967296 := by omega
    generalize (4294967296 + rd x (i : Int) - rd y (i : Int) - c) / 4294967296 = q at *
    generalize (4294967296 + rd x (i : Int) - rd y (i : Int) - c) % 4294967296 = r at *
    have hc : c = 4294967296 + rd x (i : Int) - rd y (i : Int) - 4294967296 * q - r := by omega
    rw [hc] at he
    grind
theorem ref02_Sub_c {a b : List Int} (ha : Wl a) (hb : Wl b) (hla : a.length ≤ 400000000) (hlb : b.length ≤ 400000000) (hge : nv b ≤ nv a) : Ev (fun k => gradineref02_Sub.f k a b) (dg (nv a - nv b)) := by
  obtain ⟨a1, a2, a3⟩ := hh_spec ha.1
  obtain ⟨b1, b2, b3⟩ := hh_spec hb.1
  refine Ev.bind (ref02_Halves_c ha hla) (Ev.bind (ref02_Halves_c hb hlb) ?_)
  rw [← a2, ← b2]
  exact ref02_Sub_l a1 b1 (by omega) (by omega) (hh a).length 0 [] 0 (by omega) rfl Hs_nil (by omega) (by omega) rfl
end Go.Proofs.Ytbpggonjcnakgaa.M
end
section
namespace Go.Proofs.Ytbpggonjcnakgaa.M
open Go.RowKit Go.Proofs.Ytbpggonjcnakgaa.P Go.Proofs.YtbpggonjcnakgaaW.PrintWords Go.Proofs.YtbpggonjcnakgaaW.PrintLast Go.Proofs.YtbpggonjcnakgaaW.PrintMore
set_option linter.unusedVariables false

theorem rd_app_left {a b : List Int} {i : Nat} (h : i < a.length) : rd (a ++ b) (i : Int) = rd a (i : Int) := by
  unfold rd
  rw [List.getD_eq_getElem?_getD, List.getD_eq_getElem?_getD, Int.toNat_natCast, List.getElem?_append_left h]
theorem rd_app_right {a b : List Int} {i : Nat} (h : a.length ≤ i) : rd (a ++ b) (i : Int) = rd b ((i - a.length : Nat) : Int) := by
  unfold rd
  rw [List.getD_eq_getElem?_getD, List.getD_eq_getElem?_getD, Int.toNat_natCast, Int.toNat_natCast, List.getElem?_append_right h]
theorem rd_mid (a : List Int) (x : Int) (b : List Int) : rd (a ++ x :: b) (a.length : Int) = x := by
  rw [rd_app_right (Nat.le_refl _), Nat.sub_self]; rfl
theorem rd_mid1 (a : List Int) (x y : Int) (b : List Int) : rd (a ++ x :: y :: b) ((a.length + 1 : Nat) : Int) = y := by
  rw [rd_app_right (by omega), Nat.add_sub_cancel_left]; rfl
theorem set_mid (a : List Int) (x y : Int) (b : List Int) : (a ++ x :: b).set a.length y = a ++ y :: b := by
  rw [List.set_append_right _ _ (Nat.le_refl _), Nat.sub_self]; rfl
theorem rd_take {l : List Int} {i n : Nat} (h : i < n) : rd (l.take n) (i : Int) = rd l (i : Int) := by
  unfold rd
  rw [List.getD_eq_getElem?_getD, List.getD_eq_getElem?_getD, Int.toNat_natCast, List.getElem?_take_of_lt h]

end Go.Proofs.Ytbpggonjcnakgaa.M
end
section
namespace Go.Proofs.Ytbpggonjcnakgaa.M
open Go.RowKit Go.Proofs.Ytbpggonjcnakgaa.P Go.Proofs.YtbpggonjcnakgaaW.PrintWords Go.Proofs.YtbpggonjcnakgaaW.PrintLast Go.Proofs.YtbpggonjcnakgaaW.PrintMore
set_option linter.unusedVariables false

/-! ### Up -/
theorem ref02_Shl_l2 {o : List Int} (ho : Wl o) (hl : o.length ≤ 999999999) {s : Nat} (hs : s ≤ 63) (hs0 : 1 ≤ s) (i : Nat) : ∀ T : List Int, i < o.length → T.length = o.length - (i + 1) → Ws T → nv (o.take (i + 1)) * 2 ^ s + Wp (i + 1) * (nv T - rd o (i : Int) / 2 ^ (64 - s)) = nv o * 2 ^ s →
    Ev (fun k => gradineref02_Shl.l2 k (o.take (i + 1) ++ T) (s : Int) (i : Int)) (dg (nv o * 2 ^ s)) := by
  have hp := pow_pos s
  have e64 : (64 - (s : Int)).toNat = 64 - s := by omega
  induction i with
  | zero =>
    intro T hi hT hwT he
    have hx := U_rd ho.1 ((0 : Nat) : Int)
    obtain ⟨w1, w2, w3, w4, w5⟩ := shl_word hx hs (c := 0) (by omega) hp
    have e0 : o.take (0 + 1) ++ T = [] ++ rd o ((0 : Nat) : Int) :: T := by rw [take_rd hi]; rfl
    refine Ev.step (fun k => gradineref02_Shl.l2.eq_2 ..) ?_
    refine Ev.ifn (by omega) (Ev.ifp (by rw [e0]; simp) ?_)
    rw [Int.toNat_natCast, e0]
    have er : rd ([] ++ rd o ((0 : Nat) : Int) :: T) 0 = rd o ((0 : Nat) : Int) := rd_mid [] _ T
    have es : ∀ v, ([] ++ rd o ((0 : Nat) : Int) :: T).set (0 : Int).toNat v = v :: T := fun v => rfl
    rw [er, es, wu]
    rw [take_rd hi, nv_snoc] at he
    simp only [List.take_zero, List.length_nil, Wp_zero, Wp_succ, nv, Int.zero_add, Int.one_mul, Int.mul_one] at he
    rw [Int.add_zero] at w5
    have hv : nv (rd o ((0 : Nat) : Int) * 2 ^ s % 18446744073709551616 :: T) = nv o * 2 ^ s := by
      rw [nv_cons]; omega
    rw [← hv]
    exact Ev.bind (ref02_Trim_c ⟨Ws_cons.2 ⟨w5, hwT⟩, by simp; omega⟩) (Ev.same rfl)
  | succ i ih =>
    intro T hi hT hwT he
    have hx := U_rd ho.1 ((i + 1 : Nat) : Int)
    have hy := U_rd ho.1 (i : Int)
    have q0 : 0 ≤ rd o (i : Int) / 2 ^ (64 - s) := Int.ediv_nonneg hy.1 (Int.le_of_lt (pow_pos _))
    have q1 : rd o (i : Int) / 2 ^ (64 - s) < 2 ^ s := by
      rw [Int.ediv_lt_iff_lt_mul (pow_pos _), Int.mul_comm, w_split (by omega)]; exact hy.2
    obtain ⟨w1, w2, w3, w4, w5⟩ := shl_word hx hs q0 q1
    have HE := Hd.mk he
    have W2 := Hd.mk w2
    clear he w2 w3 w4
    have ll : (o.take (i + 1)).length = i + 1 := by rw [List.length_take]; omega
    have e1 : o.take (i + 1 + 1) ++ T = o.take (i + 1) ++ rd o ((i + 1 : Nat) : Int) :: T := by rw [take_rd hi, List.append_assoc]; rfl
    have e2 : rd (o.take (i + 1) ++ rd o ((i + 1 : Nat) : Int) :: T) ((i + 1 : Nat) : Int) = rd o ((i + 1 : Nat) : Int) := by
      have := rd_mid (o.take (i + 1)) (rd o ((i + 1 : Nat) : Int)) T
      rwa [ll] at this
    have e3 : rd (o.take (i + 1) ++ rd o ((i + 1 : Nat) : Int) :: T) (i : Int) = rd o (i : Int) := by
      rw [rd_app_left (by omega), rd_take (by omega)]
    have e4 : ∀ v, (o.take (i + 1) ++ rd o ((i + 1 : Nat) : Int) :: T).set ((i + 1 : Nat) : Int).toNat v = o.take (i + 1) ++ v :: T := by
      intro v
      have := set_mid (o.take (i + 1)) (rd o ((i + 1 : Nat) : Int)) v T
      rwa [ll] at this
    have e5 : wrap64 (((i + 1 : Nat) : Int) - 1) = (i : Int) := by rw [w64_id (by omega) (by omega)]; omega
    have e6 : (o.take (i + 1) ++ rd o ((i + 1 : Nat) : Int) :: T).length = o.length := by rw [List.length_append, List.length_cons, ll, hT]; omega
    rw [e1]
    refine Ev.step (fun k => gradineref02_Shl.l2.eq_2 ..) ?_
    refine Ev.ifp (by omega) (Ev.ifp (by omega) (Ev.ifp (by rw [e6]; omega) ?_))
    rw [e5]
    refine Ev.ifp (by omega) (Ev.ifp (by rw [e6]; omega) ?_)
    rw [e2, e3, e4, e64, Int.toNat_natCast, w1]
    refine ih _ (by omega) (by rw [List.length_cons, hT]; omega) (Ws_cons.2 ⟨w5, hwT⟩) ?_
    rw [← HE.out, nv_cons, nv_take_succ hi, Wp_succ (i + 1)]
    have w2 := W2.out
    generalize rd o ((i + 1 : Nat) : Int) * 2 ^ s % 18446744073709551616 = r at *
    generalize rd o ((i + 1 : Nat) : Int) / 2 ^ (64 - s) = q at *
    generalize rd o (i : Int) / 2 ^ (64 - s) = p at *
    rw [Int.add_mul, Int.mul_assoc, w2]
    grind
theorem ref02_Shl_l1 {a : List Int} (ha : Wl a) (hla : a.length ≤ 900000000) {n m s : Nat} (hn : n = 64 * m + s) (hs : s ≤ 63) (hm : m ≤ 1024) (d : Nat) : ∀ i : Nat, i + d = a.length → Ev (fun k => gradineref02_Shl.l1 k a (n : Int) (List.replicate m 0 ++ a.take i) (a.length : Int) i) (dg (nv a * 2 ^ n)) := by
  induction d with
  | zero =>
    intro i hi
    have hw : Wl (List.replicate m 0 ++ a) := ⟨Ws_app.2 ⟨Ws_zeros _, ha.1⟩, by simp; omega⟩
    have hv : nv (List.replicate m 0 ++ a) = Wp m * nv a := by rw [nv_app, nv_zeros]; simp
    refine Ev.step (fun k => gradineref02_Shl.l1.eq_2 ..) ?_
    refine Ev.ifn (by omega) ?_
    rw [List.take_of_length_le (by omega)]
    by_cases h0 : s = 0
    · refine Ev.ifp (by omega) ?_
      have : nv a * 2 ^ n = nv (List.replicate m 0 ++ a) := by rw [hv, hn, h0, Nat.add_zero, ← Wp_two, Int.mul_comm]
      rw [this]
      exact Ev.bind (ref02_Trim_c hw) (Ev.same rfl)
    · have es : (n : Int) % 64 = (s : Int) := by omega
      rw [es]
      refine Ev.ifn (by omega) (Ev.ifp (by simp; omega) ?_)
      refine Ev.bindc rfl ?_
      have hlen : (List.replicate m 0 ++ a ++ [0]).length = m + a.length + 1 := by simp; omega
      have ew : wrap64 (((List.replicate m 0 ++ a ++ [(0 : Int)]).length : Int) - 1) = ((m + a.length : Nat) : Int) := by rw [hlen, w64_id (by omega) (by omega)]; omega
      rw [ew]
      have hwo : Wl (List.replicate m 0 ++ a ++ [0]) := ⟨Wl_snoc hw.1 (by unfold U; omega), by rw [hlen]; omega⟩
      have hvo : nv (List.replicate m 0 ++ a ++ [0]) = Wp m * nv a := by rw [nv_snoc, hv]; omega
      have h := ref02_Shl_l2 hwo (by rw [hlen]; omega) hs (by omega) (m + a.length) [] (by rw [hlen]; omega) (by rw [hlen]; simp) Ws_nil (by
        have hr : rd (List.replicate m 0 ++ a ++ [(0 : Int)]) ((m + a.length : Nat) : Int) = 0 := by
          have := rd_mid (List.replicate m 0 ++ a) (0 : Int) []
          rwa [show (List.replicate m (0 : Int) ++ a).length = m + a.length by simp] at this
        rw [hr, List.take_of_length_le (by rw [hlen]; omega)]
        simp [nv])
      rw [List.append_nil, List.take_of_length_le (by rw [hlen]; omega)] at h
      refine h.eqr ?_
      rw [hvo, hn, Int.pow_add, ← Wp_two]
      congr 1
      grind
  | succ d ih =>
    intro i hi
    have e : wrap64 ((i : Int) + 1) = ((i + 1 : Nat) : Int) := by rw [w64_id (by omega) (by omega)]; omega
    refine Ev.step (fun k => gradineref02_Shl.l1.eq_2 ..) ?_
    refine Ev.ifp (by omega) (Ev.ifp (by omega) (Ev.ifp (by omega) (Ev.ifp (by simp; omega) ?_)))
    rw [e, List.append_assoc, ← take_rd (by omega)]
    exact ih (i + 1) (by omega)
theorem ref02_Shl_l0 {a : List Int} (ha : Wl a) (hla : a.length ≤ 900000000) {n m s : Nat} (hn : n = 64 * m + s) (hs : s ≤ 63) (hm : m ≤ 1024) (d : Nat) : ∀ i : Nat, i + d = m → Ev (fun k => gradineref02_Shl.l0 k a (n : Int) (List.replicate i 0) (m : Int) i) (dg (nv a * 2 ^ n)) := by
  induction d with
  | zero =>
    intro i hi
    obtain rfl : i = m := by omega
    refine Ev.step (fun k => gradineref02_Shl.l0.eq_2 ..) ?_
    refine Ev.ifn (by omega) ?_
    have h := ref02_Shl_l1 ha hla hn hs hm a.length 0 (by omega)
    rwa [List.take_zero, List.append_nil] at h
  | succ d ih =>
    intro i hi
    have e : wrap64 ((i : Int) + 1) = ((i + 1 : Nat) : Int) := by rw [w64_id (by omega) (by omega)]; omega
    refine Ev.step (fun k => gradineref02_Shl.l0.eq_2 ..) ?_
    refine Ev.ifp (by omega) (Ev.ifp (by simp; omega) ?_)
    rw [e, ← List.replicate_succ']
    exact ih (i + 1) (by omega)
theorem ref02_Shl_c {a : List Int} (ha : Wl a) (hla : a.length ≤ 900000000) (n : Int) : Ev (fun k => gradineref02_Shl.f k a n) (dg (nv a * 2 ^ shn n)) := by
  have hs := shn_le n
  obtain ⟨b, m, hb, hm, hbm⟩ : ∃ b m : Nat, b ≤ 63 ∧ m ≤ 1024 ∧ shn n = 64 * m + b := ⟨shn n % 64, shn n / 64, by omega, by omega, by omega⟩
  unfold gradineref02_Shl.f
  rw [shn_eq, show (shn n : Int) / 64 = (m : Int) by omega]
  exact ref02_Shl_l0 ha hla hbm hb hm m 0 (by omega)

/-! ### Down -/
theorem ref02_Shr_l1 {o : List Int} (ho : Wl o) {s : Nat} (hs : s ≤ 63) (d : Nat) : ∀ (i : Nat) (R : List Int), i + d = o.length → R.length = i → Ws R → nv R + Wp i * (nv (o.drop i) / 2 ^ s) = nv o / 2 ^ s →
    Ev (fun k => gradineref02_Shr.l1 k (R ++ o.drop i) (s : Int) (o.length : Int) i) (dg (nv o / 2 ^ s)) := by
  have hol := ho.2
  have e64 : (64 - (s : Int)).toNat = 64 - s := by omega
  induction d with
  | zero =>
    intro i R hi hR hwR he
    refine Ev.step (fun k => gradineref02_Shr.l1.eq_2 ..) ?_
    refine Ev.ifn (by omega) ?_
    rw [List.drop_eq_nil_of_le (by omega)] at he ⊢
    simp [nv] at he
    rw [← he, List.append_nil]
    exact Ev.bind (ref02_Trim_c ⟨hwR, by omega⟩) (Ev.same rfl)
  | succ d ih =>
    intro i R hi hR hwR he
    have hx := U_rd ho.1 (i : Int)
    have hz := U_rd ho.1 ((i + 1 : Nat) : Int)
    rw [drop_rd (show i < o.length by omega)] at he ⊢
    rw [nv_cons] at he
    have HE := Hd.mk he
    clear he
    have e : wrap64 ((i : Int) + 1) = ((i + 1 : Nat) : Int) := by rw [w64_id (by omega) (by omega)]; omega
    have r1 : rd (R ++ rd o (i : Int) :: o.drop (i + 1)) (i : Int) = rd o (i : Int) := by rw [← hR]; exact rd_mid ..
    have s1 : ∀ v : Int, (R ++ rd o (i : Int) :: o.drop (i + 1)).set (i : Int).toNat v = R ++ v :: o.drop (i + 1) := fun v => by
      rw [Int.toNat_natCast, ← hR]; exact set_mid ..
    have r2 : ∀ v : Int, rd (R ++ v :: o.drop (i + 1)) (i : Int) = v := fun v => by rw [← hR]; exact rd_mid ..
    have s2 : ∀ v u : Int, (R ++ v :: o.drop (i + 1)).set (i : Int).toNat u = R ++ u :: o.drop (i + 1) := fun v u => by
      rw [Int.toNat_natCast, ← hR]; exact set_mid ..
    have l1 : ∀ v : Int, (R ++ v :: o.drop (i + 1)).length = o.length := fun v => by simp [hR]; omega
    refine Ev.step (fun k => gradineref02_Shr.l1.eq_2 ..) ?_
    refine Ev.ifp (by omega) (Ev.ifp (by omega) (Ev.ifp (by rw [l1]; omega) ?_))
    rw [r1, s1, e, Int.toNat_natCast, e64]
    refine Ev.bindc rfl ?_
    have next : ∀ w : Int, U w → (rd o (i : Int) + 18446744073709551616 * nv (o.drop (i + 1))) / 2 ^ s = w + 18446744073709551616 * (nv (o.drop (i + 1)) / 2 ^ s) → Ev (fun k => gradineref02_Shr.l1 k (R ++ w :: o.drop (i + 1)) (s : Int) (o.length : Int) ((i + 1 : Nat) : Int)) (dg (nv o / 2 ^ s)) := by
      intro w hw hq
      have h := ih (i + 1) (R ++ [w]) (by omega) (by rw [List.length_append, hR]; rfl) (Wl_snoc hwR hw) (by
        have he := HE.out
        rw [hq] at he
        rw [nv_snoc, hR, Wp_succ, ← he]
        grind)
      rwa [List.append_assoc] at h
    by_cases hn : ((i + 1 : Nat) : Int) < (o.length : Int)
    · obtain ⟨w1, w2, w3⟩ := shr_word (T := nv (o.drop (i + 1))) hx hz hs ⟨nv (o.drop (i + 1 + 1)), by rw [drop_rd (show i + 1 < o.length by omega), nv_cons]⟩
      have r3 : ∀ v : Int, rd (R ++ v :: o.drop (i + 1)) ((i + 1 : Nat) : Int) = rd o ((i + 1 : Nat) : Int) := fun v => by
        rw [drop_rd (show i + 1 < o.length by omega), ← hR]; exact rd_mid1 ..
      refine Ev.ifp (by rw [l1]; exact hn) (Ev.ifp (by omega) ?_)
      rw [r2, r3, s2]
      have hw : IntKind.u64.wrap (IntKind.u64.wrap (rd o ((i + 1 : Nat) : Int) * 2) * 2 ^ (63 - s)) = IntKind.u64.wrap (rd o ((i + 1 : Nat) : Int) * 2 ^ (64 - s)) := by
        rw [wu, wu, wu, mul_mod_left, Int.mul_assoc, show (2 : Int) * 2 ^ (63 - s) = 2 ^ (64 - s) by rw [show 64 - s = (63 - s) + 1 by omega, Int.pow_succ, Int.mul_comm]]
      rw [hw] at w1
      rw [w1]
      exact next _ w2 w3
    · obtain ⟨w1, w2, w3⟩ := shr_word0 (T := nv (o.drop (i + 1))) hx hs (by rw [List.drop_eq_nil_of_le (by omega)]; rfl)
      refine Ev.ifn (by rw [l1]; exact hn) ?_
      exact next _ w2 w3
theorem ref02_Shr_l0 {a : List Int} (ha : Wl a) {n m s : Nat} (hn : n = 64 * m + s) (hs : s ≤ 63) (d : Nat) : ∀ i : Nat, i + d = a.length → m ≤ i → Ev (fun k => gradineref02_Shr.l0 k a (n : Int) ((a.drop m).take (i - m)) i) (dg (nv a / 2 ^ n)) := by
  have hal := ha.2
  have hdiv : nv a / 2 ^ n = nv (a.drop m) / 2 ^ s := by
    have hp := Wp_pos m
    rw [hn, Int.pow_add, ← Wp_two, ← Int.ediv_ediv_of_nonneg (by omega), nv_div_Wp ha.1]
  induction d with
  | zero =>
    intro i hi hmi
    have hw : Wl (a.drop m) := ⟨Ws_drop ha.1 m, by simp; omega⟩
    refine Ev.step (fun k => gradineref02_Shr.l0.eq_2 ..) ?_
    refine Ev.ifn (by omega) ?_
    rw [List.take_of_length_le (by simp; omega), show (n : Int) % 64 = (s : Int) by omega, hdiv]
    by_cases h0 : s = 0
    · refine Ev.ifp (by omega) ?_
      rw [h0, Int.pow_zero, Int.ediv_one]
      exact Ev.bind (ref02_Trim_c hw) (Ev.same rfl)
    · refine Ev.ifn (by omega) ?_
      exact ref02_Shr_l1 hw hs (a.drop m).length 0 [] (by omega) rfl Ws_nil (by simp [nv, Wp_zero])
  | succ d ih =>
    intro i hi hmi
    have e : wrap64 ((i : Int) + 1) = ((i + 1 : Nat) : Int) := by rw [w64_id (by omega) (by omega)]; omega
    have e2 : (a.drop m).take (i - m) ++ [rd a (i : Int)] = (a.drop m).take (i + 1 - m) := by
      have h1 := take_rd (l := a.drop m) (i := i - m) (by simp; omega)
      have h2 : rd (a.drop m) ((i - m : Nat) : Int) = rd a (i : Int) := by
        unfold rd
        rw [List.getD_eq_getElem?_getD, List.getD_eq_getElem?_getD, Int.toNat_natCast, Int.toNat_natCast, List.getElem?_drop, show m + (i - m) = i by omega]
      rw [h2] at h1
      rw [sub_succ_of hmi, h1]
    refine Ev.step (fun k => gradineref02_Shr.l0.eq_2 ..) ?_
    refine Ev.ifp (by omega) (Ev.ifp (by omega) (Ev.ifp (by simp; omega) ?_))
    rw [e, e2]
    exact ih (i + 1) (by omega) (by omega)
theorem ref02_Shr_c {a : List Int} (ha : Wl a) {n : Int} (hn : n ≤ 9223372036854775807) : Ev (fun k => gradineref02_Shr.f k a n) (dg (nv a / 2 ^ n.toNat)) := by
  have hal := ha.2
  have hmx : mx n 0 = (n.toNat : Int) := by unfold mx; split <;> omega
  obtain ⟨b, m, hb, hbm⟩ : ∃ b m : Nat, b ≤ 63 ∧ n.toNat = 64 * m + b := ⟨n.toNat % 64, n.toNat / 64, by omega, by omega⟩
  have e1 : wrap64 ((n.toNat : Int) / 64) = (m : Int) := by rw [w64_id (by omega) (by omega)]; omega
  unfold gradineref02_Shr.f
  rw [hmx, e1]
  rcases Nat.lt_or_ge m a.length with h | h
  · have := ref02_Shr_l0 ha hbm hb (a.length - m) m (by omega) (Nat.le_refl _)
    rwa [Nat.sub_self, List.take_zero] at this
  · have hz : nv a / 2 ^ n.toNat = 0 := by
      have h1 := nv_lt ha.1
      have h2 := Wp_le h
      rw [hbm, Int.pow_add, ← Wp_two]
      have h3 := pow_pos b
      have h4 := Int.mul_le_mul_of_nonneg_left (show 1 ≤ (2 : Int) ^ b by omega) (Int.le_of_lt (Wp_pos m))
      exact Int.ediv_eq_zero_of_lt (nv_nonneg ha.1) (by omega)
    rw [hz]
    refine Ev.step (fun k => gradineref02_Shr.l0.eq_2 ..) ?_
    refine Ev.ifn (by omega) ?_
    by_cases h0 : (n.toNat : Int) % 64 = 0
    · exact Ev.ifp h0 (Ev.bind (ref02_Trim_c ⟨Ws_nil, by simp⟩) (Ev.same rfl))
    · refine Ev.ifn h0 (Ev.step (fun k => gradineref02_Shr.l1.eq_2 ..) (Ev.ifn (by simp) ?_))
      exact Ev.bind (ref02_Trim_c ⟨Ws_nil, by simp⟩) (Ev.same rfl)
end Go.Proofs.Ytbpggonjcnakgaa.M
end
section
namespace Go.Proofs.Ytbpggonjcnakgaa.M
open Go.RowKit Go.Proofs.YtbpggonjcnakgaaW.PrintWords Go.Proofs.YtbpggonjcnakgaaW.PrintLast Go.Proofs.YtbpggonjcnakgaaW.PrintMore
set_option linter.unusedVariables false

def fs (b : Int) : Bool := decide (b ≥ 9223372036854775808)
def sgn (neg : Bool) (b : Int) : Int := if neg then b + 9223372036854775808 else b
def INF : Int := 9218868437227405312
theorem mul_cmp {a b c : Int} (h : 0 < c) : (a * c > b * c ↔ a > b) ∧ (a * c = b * c ↔ a = b) := by
  constructor
  · constructor
    · intro h1
      rcases Int.lt_or_le b a with h2 | h2
      · exact h2
      · have := Int.mul_le_mul_of_nonneg_right h2 (Int.le_of_lt h)
        omega
    · intro h1
      exact Int.mul_lt_mul_of_pos_right h1 h
  · exact ⟨fun h1 => Int.eq_of_mul_eq_mul_right (by omega) h1, fun h1 => by rw [h1]⟩
theorem mod_split (M : Int) {G D : Int} (hG : 0 < G) : M % (G * D) = G * (M / G % D) + M % G := by
  rw [Int.emod_def M (G * D), ← Int.ediv_ediv_of_nonneg (by omega), Int.emod_def (M / G) D, Int.emod_def M G]
  grind

/-! ### Rounding: halves to the even one -/
def rnd (M : Int) (d : Nat) : Int := if 2 * (M % 2 ^ d) > 2 ^ d ∨ (2 * (M % 2 ^ d) = 2 ^ d ∧ M / 2 ^ d % 2 = 1) then M / 2 ^ d + 1 else M / 2 ^ d
theorem rnd_zero (M : Int) : rnd M 0 = M := by
  unfold rnd
  rw [Int.pow_zero, Int.ediv_one, Int.emod_one, if_neg (by omega)]
theorem rnd_le (M : Int) (d : Nat) : M / 2 ^ d ≤ rnd M d ∧ rnd M d ≤ M / 2 ^ d + 1 := by
  unfold rnd
  split <;> omega
theorem rnd_small {M : Int} {d : Nat} (h0 : 0 ≤ M) (h : 2 * M < 2 ^ d) : rnd M d = 0 := by
  unfold rnd
  rw [Int.emod_eq_of_lt h0 (by omega), Int.ediv_eq_zero_of_lt h0 (by omega), if_neg (by omega)]
theorem rnd_exact {M : Int} {d : Nat} (h : M % 2 ^ d = 0) : rnd M d = M / 2 ^ d := by
  have := pow_pos d
  unfold rnd
  rw [h, if_neg (by omega)]
theorem rnd_scale (M : Int) (d s : Nat) : rnd (M * 2 ^ s) (d + s) = rnd M d := by
  have hs := pow_pos s
  have e1 : M * 2 ^ s / 2 ^ (d + s) = M / 2 ^ d := by
    rw [Int.pow_add, Int.mul_comm M, Int.mul_comm (2 ^ d), Int.mul_ediv_mul_of_pos _ _ hs]
  have e2 : M * 2 ^ s % 2 ^ (d + s) = M % 2 ^ d * 2 ^ s := by
    rw [Int.pow_add, Int.mul_comm M, Int.mul_comm (2 ^ d), Int.mul_emod_mul_of_pos _ _ hs, Int.mul_comm]
  have e3 := mul_cmp (a := 2 * (M % 2 ^ d)) (b := 2 ^ d) hs
  unfold rnd
  rw [e1, e2, ← Int.mul_assoc, Int.pow_add]
  simp only [e3.1, e3.2]
theorem bl_ge' {x : Int} {n : Nat} (h : 2 ^ n ≤ x) : (n : Int) + 1 ≤ bl x := by
  have := pow_pos n
  have a1 := bl_lt x
  have : n < (bl x).toNat := pow_lt_of (by omega)
  omega
theorem bl_shl {m : Int} (h : 0 < m) (s : Nat) : bl (m * 2 ^ s) = bl m + s := by
  have hp := pow_pos s
  have h1 : 2 ^ s ≤ m * 2 ^ s := by
    have := Int.mul_le_mul_of_nonneg_right (show 1 ≤ m by omega) (Int.le_of_lt hp)
    omega
  rw [bl_shr h1, Int.mul_ediv_cancel _ (by omega)]

/-- The unit of the doubles near m times 2^e. -/
def un (m e : Int) : Int := max (bl m + e - 53) (-1074)
theorem un_ge (m e : Int) : -1074 ≤ un m e := by unfold un; omega
theorem un_scale {m : Int} (h : 0 < m) (e : Int) (s : Nat) : un (m * 2 ^ s) (e - s) = un m e := by
  unfold un
  rw [bl_shl h, show bl m + (s : Int) + (e - s) - 53 = bl m + e - 53 by omega]
/-- m times 2^e in units of 2^u, rounded. -/
def ru (m e u : Int) : Int := rnd (m * 2 ^ (e - u).toNat) (u - e).toNat
theorem ru_scale (m e u : Int) (s : Nat) : ru (m * 2 ^ s) (e - s) u = ru m e u := by
  unfold ru
  rcases Int.lt_or_le u e with h | h
  · obtain ⟨t, ht⟩ : ∃ t : Nat, e - u = t := ⟨(e - u).toNat, by omega⟩
    rw [show (u - e).toNat = 0 by omega, rnd_zero, ht, Int.toNat_natCast]
    rcases Nat.lt_or_ge t s with h2 | h2
    · rw [show (e - s - u).toNat = 0 by omega, show (u - (e - s)).toNat = 0 + (s - t) by omega, Int.pow_zero, Int.mul_one]
      have : m * 2 ^ s = m * 2 ^ t * 2 ^ (s - t) := by rw [Int.mul_assoc, ← Int.pow_add, show t + (s - t) = s by omega]
      rw [this, rnd_scale, rnd_zero]
    · rw [show (e - s - u).toNat = t - s by omega, show (u - (e - s)).toNat = 0 by omega, rnd_zero, Int.mul_assoc, ← Int.pow_add, show s + (t - s) = t by omega]
  · rw [show (e - u).toNat = 0 by omega, show (e - s - u).toNat = 0 by omega, Int.pow_zero, Int.mul_one, Int.mul_one, show (u - (e - s)).toNat = (u - e).toNat + s by omega, rnd_scale]
/-- The word of the double nearest to m times 2^e. -/
def Rd (m e : Int) : Int := if m ≤ 0 then 0 else if un m e > 971 then INF else (un m e + 1074) * 4503599627370496 + ru m e (un m e)
theorem Rd_zero (e : Int) : Rd 0 e = 0 := by unfold Rd; rw [if_pos (by omega)]
theorem Rd_scale {m : Int} (h : 0 < m) (e : Int) (s : Nat) : Rd (m * 2 ^ s) (e - s) = Rd m e := by
  have : 0 < m * 2 ^ s := Int.mul_pos h (pow_pos s)
  unfold Rd
  rw [if_neg (show ¬ m * 2 ^ s ≤ 0 by omega), if_neg (show ¬ m ≤ 0 by omega), un_scale h, ru_scale]

/-! ### Two numbers in one cell -/
/-! ### How many units there are -/
theorem un_q {m e : Int} (h : 0 < m) : 0 ≤ m * 2 ^ (e - un m e).toNat / 2 ^ (un m e - e).toNat ∧ m * 2 ^ (e - un m e).toNat / 2 ^ (un m e - e).toNat < 9007199254740992 ∧ (un m e = -1074 ∨ 4503599627370496 ≤ m * 2 ^ (e - un m e).toNat / 2 ^ (un m e - e).toNat) := by
  have hu : un m e = max (bl m + e - 53) (-1074) := rfl
  have hb := bl_shl h (e - un m e).toNat
  have hM : 0 < m * 2 ^ (e - un m e).toNat := Int.mul_pos h (pow_pos _)
  have a1 := bl_lt (m * 2 ^ (e - un m e).toNat)
  have a2 := bl_le hM
  have a3 := bl_pos hM
  have hp := pow_pos (un m e - e).toNat
  generalize un m e = u at *
  generalize m * 2 ^ (e - u).toNat = M at *
  have q0 : 0 ≤ M / 2 ^ (u - e).toNat := Int.ediv_nonneg (by omega) (by omega)
  have q1 : M / 2 ^ (u - e).toNat < 9007199254740992 := by
    rw [Int.ediv_lt_iff_lt_mul hp, show (9007199254740992 : Int) = 2 ^ 53 from rfl, ← Int.pow_add]
    have := pow_le_pow (a := (bl M).toNat) (b := 53 + (u - e).toNat) (by omega)
    omega
  refine ⟨q0, q1, ?_⟩
  rcases (show u = -1074 ∨ u = bl m + e - 53 by omega) with h1 | h1
  · exact .inl h1
  · refine .inr ?_
    rw [Int.le_ediv_iff_mul_le hp, show (4503599627370496 : Int) = 2 ^ 52 from rfl, ← Int.pow_add]
    have := pow_le_pow (a := 52 + (u - e).toNat) (b := (bl M - 1).toNat) (by omega)
    omega
theorem ru_units {m e : Int} (h : 0 < m) : 0 ≤ ru m e (un m e) ∧ ru m e (un m e) ≤ 9007199254740992 ∧ (un m e = -1074 ∨ 4503599627370496 ≤ ru m e (un m e)) := by
  have q := un_q (e := e) h
  have r := rnd_le (m * 2 ^ (e - un m e).toNat) (un m e - e).toNat
  unfold ru
  omega
theorem Rd_inf {m e : Int} (h : 0 < m) (he : 1024 ≤ e) : Rd m e = INF := by
  have := bl_pos h
  unfold Rd
  rw [if_neg (by omega), if_pos (by unfold un; omega)]
theorem Rd_none {m e : Int} (h : 0 ≤ m) (he : bl m + e < -1074) : Rd m e = 0 := by
  rcases (show m = 0 ∨ 0 < m by omega) with rfl | h1
  · exact Rd_zero e
  · have hb := bl_pos h1
    have hu : un m e = -1074 := by unfold un; omega
    have hl := bl_lt m
    unfold Rd ru
    rw [hu, if_neg (by omega), if_neg (by omega), show (e - -1074).toNat = 0 by omega, Int.pow_zero, Int.mul_one]
    obtain ⟨j, hj⟩ : ∃ j : Nat, (-1074 - e).toNat = j + 1 := ⟨(-1074 - e).toNat - 1, by omega⟩
    have := pow_le_pow (a := (bl m).toNat) (b := j) (by omega)
    rw [hj, rnd_small h (by rw [Int.pow_succ]; omega)]
    rfl

/-! ### What a number of units is as a double -/
def Mk (neg : Bool) (m e : Int) : Int × Bool :=
  if m = 0 then (sgn neg 0, true) else
    if un m e > 971 ∨ m * 2 ^ (e - un m e).toNat % 2 ^ (un m e - e).toNat ≠ 0 then (0, false) else (sgn neg (Rd m e), true)
theorem Mk_zero (neg : Bool) (e : Int) : Mk neg 0 e = (sgn neg 0, true) := by unfold Mk; rw [if_pos rfl]
theorem Mk_no (neg : Bool) {m e : Int} (h : m ≠ 0) (hc : un m e > 971 ∨ m * 2 ^ (e - un m e).toNat % 2 ^ (un m e - e).toNat ≠ 0) : Mk neg m e = (0, false) := by
  unfold Mk
  rw [if_neg h, if_pos hc]
theorem Mk_yes (neg : Bool) {m e : Int} (h : m ≠ 0) (h1 : un m e ≤ 971) (h2 : m * 2 ^ (e - un m e).toNat % 2 ^ (un m e - e).toNat = 0) : Mk neg m e = (sgn neg (Rd m e), true) := by
  unfold Mk
  rw [if_neg h, if_neg (by rw [not_or]; exact ⟨by omega, fun k => k h2⟩)]
theorem Rd_exact {m e : Int} (h : 0 < m) (h1 : un m e ≤ 971) (h2 : m * 2 ^ (e - un m e).toNat % 2 ^ (un m e - e).toNat = 0) : Rd m e = (un m e + 1074) * 4503599627370496 + m * 2 ^ (e - un m e).toNat / 2 ^ (un m e - e).toNat := by
  unfold Rd ru
  rw [if_neg (by omega), if_neg (by omega), rnd_exact h2]
theorem un_bl {m e : Int} {n : Nat} (h1 : 2 ^ n ≤ m) (h2 : m < 2 ^ (n + 1)) : un m e = max ((n : Int) + e - 52) (-1074) := by
  unfold un
  rw [bl_eq h1 h2]
  congr 1
  omega
/-- Units that are a double's, or rounded up to the next power. -/
theorem Rd_made {w u : Int} (h0 : 0 < w) (h1 : w ≤ 9007199254740992) (hu0 : -1074 ≤ u) (hu1 : u ≤ 971) (hw : u = -1074 ∨ 4503599627370496 ≤ w) :
    (w < 9007199254740992 → un w u = u) ∧ (w = 9007199254740992 → un w u = u + 1) ∧ (un w u ≤ 971 → w * 2 ^ (u - un w u).toNat % 2 ^ (un w u - u).toNat = 0) ∧ Rd w u = (u + 1074) * 4503599627370496 + w := by
  have key : (w < 9007199254740992 → un w u = u) ∧ (w = 9007199254740992 → un w u = u + 1) := by
    constructor
    · intro h
      rcases Int.lt_or_le w 4503599627370496 with h2 | h2
      · have := bl_le_of (x := w) (n := 52) h2
        unfold un
        omega
      · rw [un_bl (n := 52) h2 h]
        omega
    · intro h
      rw [un_bl (n := 53) (by omega) (by omega)]
      omega
  refine ⟨key.1, key.2, ?_⟩
  rcases (show w < 9007199254740992 ∨ w = 9007199254740992 by omega) with h | h
  · have e := key.1 h
    rw [e]
    have e2 : w * 2 ^ (u - u).toNat % 2 ^ (u - u).toNat = 0 := by
      rw [show (u - u).toNat = 0 by omega, Int.pow_zero, Int.emod_one]
    refine ⟨fun _ => e2, ?_⟩
    rw [Rd_exact h0 (by omega) (by rw [e]; exact e2), e, show (u - u).toNat = 0 by omega, Int.pow_zero, Int.mul_one, Int.ediv_one]
  · have e := key.2 h
    rw [e]
    have e2 : w * 2 ^ (u - (u + 1)).toNat % 2 ^ (u + 1 - u).toNat = 0 := by
      rw [show (u - (u + 1)).toNat = 0 by omega, show (u + 1 - u).toNat = 1 by omega, h]
      rfl
    refine ⟨fun _ => e2, ?_⟩
    rcases (show u = 971 ∨ u + 1 ≤ 971 by omega) with h3 | h3
    · unfold Rd INF
      rw [if_neg (by omega), if_pos (by omega)]
      omega
    · rw [Rd_exact h0 (by omega) (by rw [e]; exact e2), e, show (u - (u + 1)).toNat = 0 by omega, show (u + 1 - u).toNat = 1 by omega, h]
      simp only [Int.pow_zero, Int.mul_one, Int.pow_one]
      omega
theorem Mk_made {neg : Bool} {w u : Int} (h0 : 0 ≤ w) (h1 : w ≤ 9007199254740992) (hu0 : -1074 ≤ u) (hu1 : u ≤ 971) (hw : u = -1074 ∨ 4503599627370496 ≤ w) :
    (if (Mk neg w u).2 then (Mk neg w u).1 else sgn neg INF) = sgn neg ((u + 1074) * 4503599627370496 + w) := by
  rcases (show w = 0 ∨ 0 < w by omega) with rfl | h
  · rw [Mk_zero]
    obtain rfl : u = -1074 := by omega
    rfl
  · obtain ⟨k1, k2, k3, k4⟩ := Rd_made h h1 hu0 hu1 hw
    by_cases hc : un w u > 971
    · rw [Mk_no neg (by omega) (.inl hc)]
      have hw2 : w = 9007199254740992 := by omega
      have hu2 : u = 971 := by omega
      rw [hw2, hu2]
      rfl
    · rw [Mk_yes neg (by omega) (by omega) (k3 (by omega)), k4]
      rfl
theorem Mk_scale (neg : Bool) {m : Int} (h : 0 < m) (e : Int) : Mk neg (m * 2) (e - 1) = Mk neg m e := by
  have hu := un_scale h e 1
  have hR := Rd_scale h e 1
  rw [Int.pow_one] at hu hR
  rw [show e - ((1 : Nat) : Int) = e - 1 from rfl] at hu hR
  have : m * 2 * 2 ^ (e - 1 - un m e).toNat % 2 ^ (un m e - (e - 1)).toNat = 0 ↔ m * 2 ^ (e - un m e).toNat % 2 ^ (un m e - e).toNat = 0 := by
    generalize un m e = u
    rcases Int.lt_or_le u e with h1 | h1
    · rw [show (u - e).toNat = 0 by omega, show (u - (e - 1)).toNat = 0 by omega, Int.pow_zero, Int.emod_one, Int.emod_one]
    · rw [show (e - u).toNat = 0 by omega, show (e - 1 - u).toNat = 0 by omega, show (u - (e - 1)).toNat = (u - e).toNat + 1 by omega, Int.pow_succ, Int.pow_zero, Int.mul_one, Int.mul_one, Int.mul_comm m, Int.mul_comm (2 ^ _), Int.mul_emod_mul_of_pos _ _ (by omega)]
      omega
  by_cases hc : un m e > 971 ∨ m * 2 ^ (e - un m e).toNat % 2 ^ (un m e - e).toNat ≠ 0
  · rw [Mk_no neg (by omega) hc, Mk_no neg (by omega) (by rw [hu]; rcases hc with hc | hc; exact .inl hc; exact .inr (fun k => hc (this.1 k)))]
  · rw [not_or] at hc
    have h2 : m * 2 ^ (e - un m e).toNat % 2 ^ (un m e - e).toNat = 0 := Decidable.byContradiction hc.2
    rw [Mk_yes neg (by omega) (by omega) h2, Mk_yes neg (by omega) (by omega) (by rw [hu]; exact this.2 h2), hR]

/-! ### A double's parts -/
end Go.Proofs.Ytbpggonjcnakgaa.M
end
section
namespace Go.Proofs.Ytbpggonjcnakgaa.M
open Go.RowKit Go.Proofs.Ytbpggonjcnakgaa.P Go.Proofs.YtbpggonjcnakgaaW.PrintWords Go.Proofs.YtbpggonjcnakgaaW.PrintLast Go.Proofs.YtbpggonjcnakgaaW.PrintMore
set_option linter.unusedVariables false

theorem rd_of_ge {l : List Int} {i : Nat} (h : l.length ≤ i) : rd l (i : Int) = 0 := rd_out h
/-- The word that holds a bit, with that bit. -/
theorem set_word {x : Int} (hx : U x) {b : Nat} (hb : b ≤ 63) (h0 : x / 2 ^ b % 2 = 0) : Go.bits .or .u64 x (2 ^ b) = x + 2 ^ b ∧ U (x + 2 ^ b) := by
  obtain ⟨hx0, hx1⟩ := hx
  have hp := pow_pos b
  have hp1 := pow_pos (b + 1)
  have hple : (2 : Int) ^ b ≤ 2 ^ 63 := pow_le_pow hb
  -- below and above the bit
  have hs := mod_split x (D := 2) hp
  rw [h0, Int.mul_zero, Int.zero_add] at hs
  rw [show (2 : Int) ^ b * 2 = 2 ^ (b + 1) from (Int.pow_succ ..).symm] at hs
  have hd := Int.mul_ediv_add_emod x (2 ^ (b + 1))
  have r0 := Int.emod_nonneg x (show (2 : Int) ^ b ≠ 0 by omega)
  have r1 := Int.emod_lt_of_pos x hp
  rw [hs] at hd
  have hA0 : 0 ≤ 2 ^ (b + 1) * (x / 2 ^ (b + 1)) := Int.mul_nonneg (by omega) (Int.ediv_nonneg hx0 (by omega))
  have hAm : 2 ^ (b + 1) * (x / 2 ^ (b + 1)) % 2 ^ (b + 1) = 0 := Int.mul_emod_right ..
  have hpp : (2 : Int) ^ (b + 1) * 2 ^ (63 - b) = 18446744073709551616 := by rw [← Int.pow_add, show b + 1 + (63 - b) = 64 by omega]; rfl
  have hq : x / 2 ^ (b + 1) < 2 ^ (63 - b) := by rw [Int.ediv_lt_iff_lt_mul hp1, Int.mul_comm, hpp]; exact hx1
  have htop := Int.mul_le_mul_of_nonneg_left (show x / 2 ^ (b + 1) + 1 ≤ 2 ^ (63 - b) by omega) (Int.le_of_lt hp1)
  rw [hpp, Int.mul_add, Int.mul_one] at htop
  have e2 : (2 : Int) ^ (b + 1) = 2 ^ b * 2 := Int.pow_succ ..
  generalize hA : 2 ^ (b + 1) * (x / 2 ^ (b + 1)) = A at *
  generalize hr : x % 2 ^ b = r at *
  have o1 : Go.bits .or .u64 A r = A + r := or_join (b + 1) _ _ hA0 hAm (by omega) r0 (by omega) (by omega)
  have o2 : Go.bits .or .u64 (2 ^ b) r = 2 ^ b + r := or_join b _ _ (by omega) (Int.emod_self) (by omega) r0 r1 (by omega)
  have o3 : Go.bits .or .u64 A (2 ^ b + r) = A + (2 ^ b + r) := or_join (b + 1) _ _ hA0 hAm (by omega) (by omega) (by omega) (by omega)
  refine ⟨?_, by unfold U; omega⟩
  obtain ⟨a, ha⟩ := Int.eq_ofNat_of_zero_le hA0
  obtain ⟨c, hc⟩ := Int.eq_ofNat_of_zero_le r0
  obtain ⟨p, hpn⟩ := Int.eq_ofNat_of_zero_le (Int.le_of_lt hp)
  have hor : ∀ u v : Nat, u < 2 ^ 64 → v < 2 ^ 64 → Go.bits .or .u64 (u : Int) (v : Int) = ((u ||| v : Nat) : Int) := fun u v hu hv => or_nat u v hu hv
  rw [ha, hc] at o1
  rw [hpn, hc] at o2
  have b1 := hor a c (by omega) (by omega)
  have b2 := hor p c (by omega) (by omega)
  rw [b1] at o1
  rw [b2] at o2
  rw [ha, hpn, hc, ← o2, hor a (p ||| c) (by omega) (by omega)] at o3
  rw [show x = A + r by omega, ha, hc, ← o1, hpn, hor (a ||| c) p (by omega) (by omega), Nat.or_assoc, Nat.or_comm c p, o3, o1, o2]
  omega
theorem tdiv64 (i : Nat) : Int.tdiv (i : Int) 64 = ((i / 64 : Nat) : Int) := by rw [Int.tdiv_eq_ediv_of_nonneg (by omega)]; omega
theorem tmod64 (i : Nat) : Int.tmod (i : Int) 64 = ((i % 64 : Nat) : Int) := by rw [Int.tmod_eq_emod_of_nonneg (by omega)]; omega
theorem w64_nat {n : Nat} (h : n ≤ 1000000000000) : wrap64 (n : Int) = n := w64_id (by omega) (by omega)
theorem wu_nat {n : Nat} (h : n ≤ 1000000000000) : IntKind.u64.wrap (n : Int) = n := wu_id (by omega) (by omega)
theorem w64_next {j : Nat} (h : j ≤ 1000000000000) : wrap64 ((j : Int) + 1) = ((j + 1 : Nat) : Int) := by rw [w64_id (by omega) (by omega)]; omega
theorem shl_bit {b : Nat} (hb : b ≤ 63) : shl .u64 1 (b : Int) = 2 ^ b := by
  have := pow_le_pow (a := b) (b := 63) (by omega)
  have := pow_pos b
  rw [shl_u _ _ (by omega), Int.toNat_natCast, Int.one_mul, Int.emod_eq_of_lt (by omega) (by omega)]
theorem nv_take_more (l : List Int) {i : Nat} (h : l.length ≤ i) : nv (l.take i) = nv l := by rw [List.take_of_length_le h]
theorem ref04_set_l {a : List Int} (ha : Wl a) {i : Nat} (hi : i ≤ 60000000) (hbit : nv a / 2 ^ i % 2 = 0) {n : Nat} (hn : a.length ≤ n) (hn2 : i / 64 < n) (hn3 : n ≤ 1000000000) (d : Nat) : ∀ (j : Nat) (out : List Int), j + d = n → out.length = j → Ws out → nv out = nv (a.take j) + (if i / 64 < j then 2 ^ i else 0) →
    ∃ r, Ev (fun k => gradineref04_set.l0 k a i out (n : Int) j) r ∧ Ws r ∧ r.length = n ∧ nv r = nv a + 2 ^ i := by
  induction d with
  | zero =>
    intro j out hj hlo hwo he
    obtain rfl : j = n := by omega
    refine ⟨out, Ev.step (fun k => gradineref04_set.l0.eq_2 ..) (Ev.ifn (by omega) (Ev.same rfl)), hwo, hlo, ?_⟩
    rw [he, nv_take_more a hn, if_pos hn2]
  | succ d ih =>
    intro j out hj hlo hwo he
    have hx : U (rd a (j : Int)) := U_rd ha.1 _
    -- the word that is put down
    have key : ∀ v : Int, U v → v = rd a (j : Int) + (if i / 64 = j then 2 ^ (i % 64) else 0) → ∃ r, Ev (fun k => gradineref04_set.l0 k a i (out ++ [v]) (n : Int) ((j + 1 : Nat) : Int)) r ∧ Ws r ∧ r.length = n ∧ nv r = nv a + 2 ^ i := by
      intro v hv hve
      refine ih (j + 1) (out ++ [v]) (by omega) (by rw [List.length_append, hlo]; rfl) (Ws_app.2 ⟨hwo, Ws_one hv⟩) ?_
      rw [nv_snoc, he, nv_take_next, hlo, hve]
      by_cases h1 : i / 64 = j
      · rw [if_pos h1, if_neg (show ¬ i / 64 < j by omega), if_pos (show i / 64 < j + 1 by omega)]
        have : (2 : Int) ^ i = Wp j * 2 ^ (i % 64) := by rw [Wp_two, ← Int.pow_add, show 64 * j + i % 64 = i by omega]
        rw [this, Int.mul_add]
        omega
      · rw [if_neg h1, Int.add_zero]
        by_cases h2 : i / 64 < j
        · rw [if_pos h2, if_pos (show i / 64 < j + 1 by omega)]
          omega
        · rw [if_neg h2, if_neg (show ¬ i / 64 < j + 1 by omega)]
          omega
    have hbl := bit_list ha.1 i
    rw [hbit] at hbl
    by_cases hin : j < a.length
    · by_cases h1 : i / 64 = j
      · have hw := set_word hx (b := i % 64) (by omega) (by rw [← h1]; exact hbl.symm)
        obtain ⟨r, hr, hr2⟩ := key _ hw.2 (by rw [if_pos h1])
        refine ⟨r, Ev.step (fun k => gradineref04_set.l0.eq_2 ..) (Ev.ifp (by omega) (Ev.ifp (by omega) (Ev.ifp (by omega) ?_))), hr2⟩
        rw [tdiv64, tmod64, w64_nat (by omega), wu_nat (by omega), shl_bit (by omega), hw.1, w64_next (by omega)]
        exact Ev.ifp (by omega) (Ev.ifp (by omega) (Ev.ifp (by omega) hr))
      · obtain ⟨r, hr, hr2⟩ := key (rd a (j : Int)) hx (by rw [if_neg h1]; omega)
        refine ⟨r, Ev.step (fun k => gradineref04_set.l0.eq_2 ..) (Ev.ifp (by omega) (Ev.ifp (by omega) (Ev.ifp (by omega) ?_))), hr2⟩
        rw [tdiv64, w64_nat (by omega), w64_next (by omega)]
        exact Ev.ifn (by omega) (Ev.ifp (by omega) hr)
    · have hz := rd_of_ge (l := a) (i := j) (by omega)
      by_cases h1 : i / 64 = j
      · have hw := set_word (x := 0) (by unfold U; omega) (b := i % 64) (by omega) (by rw [Int.zero_ediv]; rfl)
        obtain ⟨r, hr, hr2⟩ := key _ hw.2 (by rw [if_pos h1, hz])
        refine ⟨r, Ev.step (fun k => gradineref04_set.l0.eq_2 ..) (Ev.ifp (by omega) (Ev.ifn (by omega) ?_)), hr2⟩
        rw [tdiv64, tmod64, w64_nat (by omega), wu_nat (by omega), shl_bit (by omega), hw.1, w64_next (by omega)]
        exact Ev.ifp (by omega) (Ev.ifp (by omega) (Ev.ifp (by omega) hr))
      · obtain ⟨r, hr, hr2⟩ := key 0 (by unfold U; omega) (by rw [if_neg h1, hz]; omega)
        refine ⟨r, Ev.step (fun k => gradineref04_set.l0.eq_2 ..) (Ev.ifp (by omega) (Ev.ifn (by omega) ?_)), hr2⟩
        rw [tdiv64, w64_nat (by omega), w64_next (by omega)]
        exact Ev.ifn (by omega) (Ev.ifp (by omega) hr)
theorem ref04_set_c {a : List Int} (ha : Wl a) (hla : a.length ≤ 1000000) {i : Nat} (hi : i ≤ 60000000) (hbit : nv a / 2 ^ i % 2 = 0) :
    ∃ r, Ev (fun k => gradineref04_set.f k a i) r ∧ Ws r ∧ r.length = max a.length (i / 64 + 1) ∧ nv r = nv a + 2 ^ i := by
  have hm : mx (a.length : Int) (wrap64 ((wrap64 (Int.tdiv (i : Int) 64)) + 1)) = ((max a.length (i / 64 + 1) : Nat) : Int) := by
    rw [Int.tdiv_eq_ediv_of_nonneg (by omega), w64_id (n := (i : Int) / 64) (by omega) (by omega), w64_id (by omega) (by omega)]
    unfold mx
    split <;> omega
  have := ref04_set_l ha hi hbit (n := max a.length (i / 64 + 1)) (by omega) (by omega) (by omega) (max a.length (i / 64 + 1)) 0 [] (by omega) rfl Ws_nil (by rw [if_neg (by omega)]; rfl)
  unfold gradineref04_set.f
  rw [hm]
  exact this
end Go.Proofs.Ytbpggonjcnakgaa.M
end
section
namespace Go.Proofs.Ytbpggonjcnakgaa.M
open Go.RowKit Go.Proofs.YtbpggonjcnakgaaW.PrintWords Go.Proofs.YtbpggonjcnakgaaW.PrintLast Go.Proofs.YtbpggonjcnakgaaW.PrintMore
set_option linter.unusedVariables false

def gc (a b : Int) : Int := (Nat.gcd a.toNat b.toNat : Nat)
theorem gc_nat (a b : Nat) : gc a b = (Nat.gcd a b : Nat) := by unfold gc; rw [Int.toNat_natCast, Int.toNat_natCast]
theorem gc_nonneg (a b : Int) : 0 ≤ gc a b := by unfold gc; omega
theorem gc_comm (a b : Int) : gc a b = gc b a := by unfold gc; rw [Nat.gcd_comm]
theorem gc_zero {a : Int} (h : 0 ≤ a) : gc a 0 = a := by
  obtain ⟨A, rfl⟩ := Int.eq_ofNat_of_zero_le h
  have := gc_nat A 0
  rw [Nat.gcd_zero_right] at this
  exact this
theorem gc_one {a : Int} (h : 0 ≤ a) : gc a 1 = 1 := by
  obtain ⟨A, rfl⟩ := Int.eq_ofNat_of_zero_le h
  have := gc_nat A 1
  rw [Nat.gcd_one_right] at this
  exact this
theorem gc_mod {a b : Int} (ha : 0 ≤ a) (hb : 0 ≤ b) : gc b (a % b) = gc a b := by
  obtain ⟨A, rfl⟩ := Int.eq_ofNat_of_zero_le ha
  obtain ⟨B, rfl⟩ := Int.eq_ofNat_of_zero_le hb
  rw [← Int.natCast_emod, gc_nat, gc_nat, Nat.gcd_comm A B, Nat.gcd_rec B A, Nat.gcd_comm]
theorem gc_sub {x y : Int} (hy : 0 ≤ y) (h : y ≤ x) : gc (x - y) y = gc x y := by
  obtain ⟨X, rfl⟩ := Int.eq_ofNat_of_zero_le (show 0 ≤ x by omega)
  obtain ⟨Y, rfl⟩ := Int.eq_ofNat_of_zero_le hy
  rw [show (X : Int) - Y = ((X - Y : Nat) : Int) by omega, gc_nat, gc_nat, Nat.gcd_sub_self_left (by omega)]
theorem gc_mul {x y c : Int} (hx : 0 ≤ x) (hy : 0 ≤ y) (hc : 0 ≤ c) : gc (x * c) (y * c) = gc x y * c := by
  obtain ⟨X, rfl⟩ := Int.eq_ofNat_of_zero_le hx
  obtain ⟨Y, rfl⟩ := Int.eq_ofNat_of_zero_le hy
  obtain ⟨C, rfl⟩ := Int.eq_ofNat_of_zero_le hc
  rw [← Int.natCast_mul, ← Int.natCast_mul, gc_nat, gc_nat, Nat.gcd_mul_right, Int.natCast_mul]
theorem gc_odd {x y : Int} (hx : 0 ≤ x) (hy : 0 ≤ y) (ho : y % 2 = 1) (t : Nat) : gc (x * 2 ^ t) y = gc x y := by
  obtain ⟨X, rfl⟩ := Int.eq_ofNat_of_zero_le hx
  obtain ⟨Y, rfl⟩ := Int.eq_ofNat_of_zero_le hy
  have e : (X : Int) * 2 ^ t = ((X * 2 ^ t : Nat) : Int) := by rw [Int.natCast_mul, Int.natCast_pow]; rfl
  have hc : Nat.Coprime (2 ^ t) Y := by
    refine Nat.Coprime.pow_left t ?_
    have : Nat.gcd 2 Y = Nat.gcd (Y % 2) 2 := Nat.gcd_rec 2 Y
    rw [show Y % 2 = 1 by omega, Nat.gcd_one_left] at this
    exact this
  rw [e, gc_nat, gc_nat, Nat.Coprime.gcd_mul_right_cancel X hc]
theorem gc_halves {x y : Int} (hx : 0 ≤ x) (hy : 0 ≤ y) (hox : x % 2 = 1) (hoy : y % 2 = 1) (i j : Nat) : gc (x * 2 ^ i) (y * 2 ^ j) = gc x y * 2 ^ (min i j) := by
  have key : ∀ (x y : Int) (i j : Nat), 0 ≤ x → 0 ≤ y → x % 2 = 1 → i ≤ j → gc (x * 2 ^ i) (y * 2 ^ j) = gc x y * 2 ^ i := by
    intro x y i j hx hy hox hij
    have e : y * 2 ^ j = y * 2 ^ (j - i) * 2 ^ i := by rw [Int.mul_assoc, ← Int.pow_add, show j - i + i = j by omega]
    have hp := pow_pos i
    have hp2 := pow_pos (j - i)
    rw [e, gc_mul hx (Int.mul_nonneg hy (by omega)) (by omega), gc_comm x, gc_odd hy hx hox, gc_comm y]
  rcases Nat.le_total i j with h | h
  · rw [key x y i j hx hy hox h, Nat.min_eq_left h]
  · rw [gc_comm, key y x j i hy hx hoy h, Nat.min_eq_right h, gc_comm]
theorem gc_pos {a b : Int} (h : 0 < a ∨ 0 < b) : 0 < gc a b := by
  unfold gc
  have : 0 < Nat.gcd a.toNat b.toNat := by
    rcases h with h | h
    · exact Nat.gcd_pos_of_pos_left _ (by omega)
    · exact Nat.gcd_pos_of_pos_right _ (by omega)
  omega
theorem gc_split {a b : Int} (ha : 0 ≤ a) (hb : 0 ≤ b) : a / gc a b * gc a b = a ∧ b / gc a b * gc a b = b := by
  obtain ⟨A, rfl⟩ := Int.eq_ofNat_of_zero_le ha
  obtain ⟨B, rfl⟩ := Int.eq_ofNat_of_zero_le hb
  rw [gc_nat]
  have h1 := Nat.div_mul_cancel (Nat.gcd_dvd_left A B)
  have h2 := Nat.div_mul_cancel (Nat.gcd_dvd_right A B)
  exact ⟨by exact_mod_cast h1, by exact_mod_cast h2⟩
theorem gc_self {a : Int} (h : 0 ≤ a) : gc a a = a := by
  obtain ⟨A, rfl⟩ := Int.eq_ofNat_of_zero_le h
  rw [gc_nat, Nat.gcd_self]
end Go.Proofs.Ytbpggonjcnakgaa.M
end
section
namespace Go.Proofs.Ytbpggonjcnakgaa.M
open Go.RowKit Go.Proofs.Ytbpggonjcnakgaa.P Go.Proofs.YtbpggonjcnakgaaW.PrintWords Go.Proofs.YtbpggonjcnakgaaW.PrintLast Go.Proofs.YtbpggonjcnakgaaW.PrintMore
set_option linter.unusedVariables false

theorem one_word {l : List Int} (h : Ws l) (h1 : (dg (nv l)).length = 1) : 0 < l.length ∧ rd l 0 = nv l ∧ 0 < nv l ∧ nv l < 18446744073709551616 := by
  have h0 := nv_nonneg h
  have hlt := lt_Wp_dg h0
  rw [h1] at hlt
  have hW : Wp 1 = 18446744073709551616 := by decide
  rw [hW] at hlt
  have hne : nv l ≠ 0 := fun k => by rw [k] at h1; cases h1
  cases l with
  | nil => exact absurd rfl hne
  | cons x l =>
    have hx := Ws_cons.1 h
    have hn := nv_nonneg hx.2
    have hU := hx.1
    unfold U at hU
    rw [nv_cons] at hlt hne h0 ⊢
    refine ⟨by simp, ?_, by omega, hlt⟩
    show x = _
    omega
theorem div_two_step (A : Int) (i : Nat) : A / 2 ^ i = 2 * (A / 2 ^ (i + 1)) + A / 2 ^ i % 2 := by
  rw [Int.pow_succ, ← Int.ediv_ediv_of_nonneg (by have := pow_pos i; omega)]
  omega
theorem ref04_Div_l {a b : List Int} (ha : Wl a) (hb : Wl b) (hla : a.length ≤ 2000) (hlb : b.length ≤ 2000) (hB : 0 < nv b) (j : Nat) (hj : j ≤ 200000) :
    ∀ q r : List Int, Ws q → q.length ≤ 4000 → Ws r → r.length ≤ 4000 → nv q % 2 ^ j = 0 → nv r < nv b → nv a / 2 ^ j = nv q / 2 ^ j * nv b + nv r →
      Ev (fun k => gradineref04_Div.l0 k a b q r ((j : Int) - 1)) (dg (nv a / nv b), dg (nv a % nv b)) := by
  induction j with
  | zero =>
    intro q r hq hlq hr hlr hm hlt he
    refine Ev.step (fun k => gradineref04_Div.l0.eq_2 ..) (Ev.ifn (by omega) ?_)
    rw [Int.pow_zero, Int.ediv_one, Int.ediv_one] at he
    have hr0 := nv_nonneg hr
    have hdiv := (Int.ediv_emod_unique (a := nv a) (b := nv b) (r := nv r) (q := nv q) hB).2 ⟨by rw [he, Int.mul_comm]; omega, hr0, hlt⟩
    rw [hdiv.1, hdiv.2]
    exact Ev.bind (ref02_Trim_c ⟨hq, by omega⟩) (Ev.bind (ref02_Trim_c ⟨hr, by omega⟩) (Ev.same rfl))
  | succ j ih =>
    intro q r hq hlq hr hlr hm hlt he
    have hp := pow_pos j
    have hq0 := nv_nonneg hq
    have hr0 := nv_nonneg hr
    have hA0 := nv_nonneg ha.1
    have ej : ((j + 1 : Nat) : Int) - 1 = (j : Int) := by omega
    rw [ej]
    -- the quotient so far has no bit at j
    have hm' := Int.mul_ediv_add_emod (nv q) (2 ^ (j + 1))
    rw [hm, Int.add_zero, Int.pow_succ, Int.mul_assoc] at hm'
    have hqj : nv q / 2 ^ j = 2 * (nv q / (2 ^ j * 2)) := by
      conv => lhs; rw [← hm']
      rw [Int.mul_ediv_cancel_left _ (by omega)]
    have hbit : nv q / 2 ^ j % 2 = 0 := by rw [hqj]; exact Int.mul_emod_right ..
    have hm3 : nv q % 2 ^ j = 0 := by rw [← hm']; exact Int.mul_emod_right ..
    have hstep := div_two_step (nv a) j
    rw [Int.pow_succ] at hstep he
    refine Ev.step (fun k => gradineref04_Div.l0.eq_2 ..) (Ev.ifp (by omega) ?_)
    have S := ref02_Shl_c (a := r) ⟨hr, by omega⟩ (by omega) 1
    rw [shn_of (by omega) (by omega), show (1 : Int).toNat = 1 from rfl, Int.pow_one] at S
    refine Ev.bind S ?_
    have hbv := bl_nv hb.1
    have br2 : bl (nv r * 2) ≤ 128002 := by
      have := bl_mul (x := nv r) (y := 2) hr0 (by omega)
      have := bl_mono (show nv r ≤ nv b by omega)
      have : bl 2 = 2 := rfl
      omega
    have lr2 := dg_len_bl (nv r * 2)
    -- what is done with the next digit
    have j2 : ∀ z : List Int, Ws z → z.length ≤ 2002 → nv z = nv r * 2 + nv a / 2 ^ j % 2 → Ev (fun k => gradineref04_Div.j2 k a b q z (j : Int)) (dg (nv a / nv b), dg (nv a % nv b)) := by
      intro z hz hlz hnz
      have hb01 : 0 ≤ nv a / 2 ^ j % 2 ∧ nv a / 2 ^ j % 2 < 2 := by omega
      refine Ev.step (fun k => gradineref04_Div.j2.eq_2 ..) (Ev.bind (ref02_Cmp_c (a := z) ⟨hz, by omega⟩ hb) ?_)
      have ew : wrap64 ((j : Int) - 1) = (j : Int) - 1 := w64_id (by omega) (by omega)
      rw [ew]
      have hAj : nv a / 2 ^ j = nv q / 2 ^ j * nv b + nv z := by
        rw [hstep, he, hqj, hnz]
        grind
      by_cases hc : cmpI (nv z) (nv b) ≥ 0
      · have hge : nv b ≤ nv z := by
          unfold cmpI at hc
          split at hc
          · omega
          · omega
        refine Ev.ifp hc ?_
        have D := ref02_Sub_c (a := z) (b := b) ⟨hz, by omega⟩ hb (by omega) (by omega) hge
        refine Ev.bind D ?_
        obtain ⟨t, ht, htw, htl, htn⟩ := ref04_set_c (a := q) ⟨hq, by omega⟩ (by omega) (i := j) (by omega) hbit
        refine Ev.bind ht ?_
        have hz0 := nv_nonneg hz
        have bz := bl_nv hz
        have bzb := bl_mono (show nv z - nv b ≤ nv z by omega)
        have lz := dg_len_bl (nv z - nv b)
        have hq2 : nv t / 2 ^ j = nv q / 2 ^ j + 1 := by
          rw [htn, show nv q + 2 ^ j = nv q + 2 ^ j * 1 by omega, Int.add_mul_ediv_left _ _ (by omega)]
        refine ih (by omega) t (dg (nv z - nv b)) htw (by omega) (dg_Ws _) (by omega) ?_ ?_ ?_
        · rw [htn, Int.add_emod_right]; exact hm3
        · rw [nv_dg (by omega)]; omega
        · rw [nv_dg (by omega), hq2, hAj, Int.add_mul]
          omega
      · have hltz : nv z < nv b := by
          unfold cmpI at hc
          split at hc
          · assumption
          · split at hc <;> omega
        exact Ev.ifn hc (ih (by omega) q z hq hlq hz (by omega) hm3 hltz hAj)
    refine Ev.bindc (ref02_Bit_c ha (by omega)) ?_
    unfold bitI
    rw [Int.toNat_natCast]
    by_cases hbt : nv a / 2 ^ j % 2 = 1
    · refine Ev.ifp (by simp [hbt]) ?_
      obtain ⟨t, ht, htw, htl, htn⟩ := ref04_set_c (a := dg (nv r * 2)) (Wl_dg (by omega)) (by omega) (i := 0) (by omega) (by rw [nv_dg (by omega), Int.pow_zero, Int.ediv_one]; omega)
      refine Ev.bind ht (j2 t htw (by omega) ?_)
      rw [htn, nv_dg (by omega), hbt]
      rfl
    · refine Ev.ifn (by simp [hbt]) (j2 _ (dg_Ws _) (by omega) ?_)
      rw [nv_dg (by omega)]
      omega
theorem ref04_Div_c {a b : List Int} (ha : Wl a) (hb : Wl b) (hla : a.length ≤ 1000) (hlb : b.length ≤ 1000) (hB : 0 < nv b) : Ev (fun k => gradineref04_Div.f k a b) (dg (nv a / nv b), dg (nv a % nv b)) := by
  have hA0 := nv_nonneg ha.1
  have ba := bl_nv ha.1
  have bb := bl_nv hb.1
  have bb0 := bl_pos hB
  have ba0 := bl_nonneg (nv a)
  have no : Ev (fun k => gradineref04_Div.j0 k a b [] false) (dg (nv a / nv b), dg (nv a % nv b)) := by
    refine Ev.step (fun k => gradineref04_Div.j0.eq_2 ..) (Ev.ifn (by decide) ?_)
    refine Ev.bind (ref02_Bits_c ha) (Ev.bind (ref02_Bits_c hb) ?_)
    obtain ⟨j, hj⟩ : ∃ j : Nat, (j : Int) = max 0 (bl (nv a) - bl (nv b) + 1) := ⟨(max 0 (bl (nv a) - bl (nv b) + 1)).toNat, by omega⟩
    have e : mx 0 (wrap64 ((wrap64 (bl (nv a) - bl (nv b))) + 1)) = (j : Int) := by
      rw [w64_id (n := bl (nv a) - bl (nv b)) (by omega) (by omega), w64_id (by omega) (by omega)]
      unfold mx
      generalize bl (nv a) = x at *
      generalize bl (nv b) = y at *
      split <;> omega
    rw [e, w64_id (n := (j : Int) - 1) (by omega) (by omega)]
    have R := ref02_Shr_c ha (n := (j : Int)) (by omega)
    rw [Int.toNat_natCast] at R
    refine Ev.bind R ?_
    have hp := pow_pos j
    have r0 : 0 ≤ nv a / 2 ^ j := Int.ediv_nonneg hA0 (by omega)
    have rle : nv a / 2 ^ j ≤ nv a := Int.ediv_le_self _ hA0
    have br := bl_mono rle
    have lr := dg_len_bl (nv a / 2 ^ j)
    refine ref04_Div_l ha hb (by omega) (by omega) hB j (by omega) [] (dg (nv a / 2 ^ j)) Ws_nil (by simp) (dg_Ws _) (by omega) (by show (0 : Int) % _ = 0; rw [Int.zero_emod]) ?_ ?_
    · rw [nv_dg r0, Int.ediv_lt_iff_lt_mul hp]
      have l1 := bl_lt (nv a)
      have l2 := bl_le hB
      have h3 := Int.mul_le_mul_of_nonneg_right l2 (Int.le_of_lt hp)
      rw [← Int.pow_add] at h3
      have := pow_le_pow (a := (bl (nv a)).toNat) (b := (bl (nv b) - 1).toNat + j) (by omega)
      omega
    · rw [nv_dg r0]
      show _ = (0 : Int) / _ * _ + _
      rw [Int.zero_ediv, Int.zero_mul, Int.zero_add]
  refine Ev.bind (ref02_Size_c ha) ?_
  by_cases h1 : ((dg (nv a)).length : Int) = 1
  · refine Ev.ifp h1 (Ev.bind (ref02_Size_c hb) ?_)
    by_cases h2 : ((dg (nv b)).length : Int) = 1
    · rw [h2]
      obtain ⟨a1, a2, a3, a4⟩ := one_word ha.1 (by omega)
      obtain ⟨b1, b2, b3, b4⟩ := one_word hb.1 (by omega)
      refine Ev.step (fun k => gradineref04_Div.j0.eq_2 ..) (Ev.ifp rfl (Ev.ifp (by omega) (Ev.ifp (by omega) ?_)))
      rw [a2, b2]
      refine Ev.ifn (by omega) ?_
      have q0 : 0 ≤ nv a / nv b := Int.ediv_nonneg hA0 (by omega)
      have q1 : nv a / nv b ≤ nv a := Int.ediv_le_self _ hA0
      have r0 := Int.emod_nonneg (nv a) (show nv b ≠ 0 by omega)
      have r1 := Int.emod_lt_of_pos (nv a) hB
      rw [Int.tdiv_eq_ediv_of_nonneg hA0, Int.tmod_eq_emod_of_nonneg hA0, wu_id q0 (by omega)]
      have T1 := ref02_Trim_c (l := [nv a / nv b]) ⟨Ws_one (by unfold U; omega), by simp⟩
      have T2 := ref02_Trim_c (l := [nv a % nv b]) ⟨Ws_one (by unfold U; omega), by simp⟩
      rw [nv_one] at T1 T2
      exact Ev.bind T1 (Ev.bind T2 (Ev.same rfl))
    · have : (((dg (nv b)).length : Int) == 1) = false := by rw [beq_eq_false_iff_ne]; exact h2
      rw [this]
      exact no
  · exact Ev.ifn h1 no
theorem ref05_Part_c {a g : List Int} (ha : Wl a) (hg : Wl g) (hla : a.length ≤ 1000) (hlg : g.length ≤ 1000) : Ev (fun k => gradineref05_Part.f k a g) (dg (nv a / nv g)) := by
  have hg0 := nv_nonneg hg.1
  refine Ev.bind (ref02_Size_c hg) ?_
  by_cases hz : nv g = 0
  · rw [hz, Int.ediv_zero]
    exact Ev.ifp rfl (Ev.same rfl)
  · refine Ev.ifn (fun k => hz ((dg_len_zero hg0).1 (by omega))) ?_
    have C := ref02_Cmp_c hg (b := [1]) ⟨Ws_one (by unfold U; omega), by decide⟩
    rw [nv_one] at C
    refine Ev.bind C ?_
    by_cases h1 : nv g = 1
    · rw [h1, Int.ediv_one]
      exact Ev.ifp rfl (Ev.bind (ref02_Trim_c ha) (Ev.same rfl))
    · refine Ev.ifn ?_ (Ev.bind (ref04_Div_c ha hg hla hlg (by omega)) (Ev.same rfl))
      unfold cmpI
      split
      · omega
      · split <;> omega

/-! ### The greatest common divisor -/
theorem tz_split {x : Int} (h : 0 < x) : ∃ n : Nat, tz x = n ∧ x = x / 2 ^ n * 2 ^ n ∧ x / 2 ^ n % 2 = 1 := by
  obtain ⟨n, h1, h2, h3⟩ := tz_spec h
  refine ⟨n, h1, ?_, h2⟩
  have key : ∀ j : Nat, j ≤ n → x % 2 ^ j = 0 := by
    intro j
    induction j with
    | zero => intro _; rw [Int.pow_zero, Int.emod_one]
    | succ j ih =>
      intro hj
      rw [Int.pow_succ, mod_split x (pow_pos j), h3 j (by omega), ih (by omega)]
      simp
  have hd := Int.mul_ediv_add_emod x (2 ^ n)
  rw [key n (Nat.le_refl _), Int.add_zero, Int.mul_comm] at hd
  exact hd.symm
theorem ref05_Gcd_l0 (n : Nat) : ∀ x y : Int, y.toNat ≤ n → 0 < x → 0 ≤ y → x < 18446744073709551616 → y < 18446744073709551616 → Ev (fun k => gradineref05_Gcd.l0 k x y) [gc x y] := by
  induction n with
  | zero =>
    intro x y hn h0 h1 h2 h3
    obtain rfl : y = 0 := by omega
    refine Ev.step (fun k => gradineref05_Gcd.l0.eq_2 ..) (Ev.ifn (by omega) (Ev.same ?_))
    rw [gc_zero (by omega)]
  | succ n ih =>
    intro x y hn h0 h1 h2 h3
    refine Ev.step (fun k => gradineref05_Gcd.l0.eq_2 ..) ?_
    by_cases hy : y > 0
    · refine Ev.ifp hy (Ev.ifn (by omega) ?_)
      rw [Int.tmod_eq_emod_of_nonneg (by omega)]
      have r0 := Int.emod_nonneg x (show y ≠ 0 by omega)
      have r1 := Int.emod_lt_of_pos x hy
      rw [← gc_mod (by omega) h1]
      exact ih y (x % y) (by omega) hy r0 h3 (by omega)
    · obtain rfl : y = 0 := by omega
      refine Ev.ifn (by omega) (Ev.same ?_)
      rw [gc_zero (by omega)]
theorem ref05_half {x : Int} (h : 0 < x) (hb : bl x ≤ 64000) : Ev (fun k => gradineref02_Even.f k (dg x)) (tz x) ∧ ∃ n : Nat, tz x = n ∧ n ≤ 64000 ∧ x = x / 2 ^ n * 2 ^ n ∧ x / 2 ^ n % 2 = 1 ∧ 0 < x / 2 ^ n ∧ x / 2 ^ n ≤ x ∧ Ev (fun k => gradineref02_Shr.f k (dg x) (n : Int)) (dg (x / 2 ^ n)) := by
  have w : Wl (dg x) := Wl_dg (by omega)
  have E := ref02_Even_c w
  rw [nv_dg (by omega)] at E
  obtain ⟨n, h1, h2, h3⟩ := tz_split h
  have hlt := tz_lt h
  have S := ref02_Shr_c w (n := (n : Int)) (by omega)
  rw [nv_dg (by omega), Int.toNat_natCast] at S
  have hp := pow_pos n
  have q0 : 0 ≤ x / 2 ^ n := Int.ediv_nonneg (by omega) (by omega)
  have q1 : x / 2 ^ n ≤ x := Int.ediv_le_self _ (by omega)
  exact ⟨E, n, h1, by omega, h2, h3, by omega, q1, S⟩
theorem ref05_Gcd_l1 {c : Int} (hc0 : 0 ≤ c) (hc : c ≤ 64000) (n : Nat) : ∀ x y : Int, (x + y).toNat ≤ n → 0 < x → 0 < y → x % 2 = 1 → y % 2 = 1 → bl x ≤ 64000 → bl y ≤ 64000 → Ev (fun k => gradineref05_Gcd.l1 k c (dg x) (dg y)) (dg (gc x y * 2 ^ c.toNat)) := by
  induction n with
  | zero => intro x y hn h0 h1; omega
  | succ n ih =>
    intro x y hn h0 h1 ho1 ho2 hb1 hb2
    have wx : Wl (dg x) := Wl_dg (by omega)
    have wy : Wl (dg y) := Wl_dg (by omega)
    have lx := dg_len_bl x
    have ly := dg_len_bl y
    have C := ref02_Cmp_c wx wy
    rw [nv_dg (by omega), nv_dg (by omega)] at C
    refine Ev.step (fun k => gradineref05_Gcd.l1.eq_2 ..) (Ev.bind C ?_)
    -- one less by the other, halved
    have more : ∀ u v : Int, 0 < u → 0 < v → u % 2 = 1 → v % 2 = 1 → bl u ≤ 64000 → bl v ≤ 64000 → v < u → (u + v).toNat ≤ n + 1 →
        Ev (fun k => (gradineref02_Sub.f k (dg u) (dg v)).bind fun t => (gradineref02_Even.f k t).bind fun s => (gradineref02_Shr.f k t s).bind fun z => gradineref05_Gcd.l1 k c z (dg v)) (dg (gc u v * 2 ^ c.toNat)) := by
      intro u v hu hv hou hov hbu hbv hlt hs
      have wu : Wl (dg u) := Wl_dg (by omega)
      have wv : Wl (dg v) := Wl_dg (by omega)
      have lu := dg_len_bl u
      have lv := dg_len_bl v
      have D := ref02_Sub_c wu wv (by omega) (by omega) (by rw [nv_dg (by omega), nv_dg (by omega)]; omega)
      rw [nv_dg (by omega), nv_dg (by omega)] at D
      have bd := bl_mono (show u - v ≤ u by omega)
      obtain ⟨E, m, hm1, hm2, hm3, hm4, hm5, hm6, S⟩ := ref05_half (x := u - v) (by omega) (by omega)
      rw [hm1] at E
      refine Ev.bind D (Ev.bind E (Ev.bind S ?_))
      have bq := bl_mono hm6
      have g1 : gc u v = gc ((u - v) / 2 ^ m) v := by
        rw [← gc_sub (by omega) (show v ≤ u by omega)]
        conv => lhs; rw [hm3]
        exact gc_odd (by omega) (by omega) hov m
      rw [g1]
      exact ih _ v (by omega) hm5 hv hm4 hov (by omega) hbv
    by_cases he : x = y
    · refine Ev.ifp (by unfold cmpI; rw [if_neg (by omega), if_neg (by omega)]) ?_
      have S := ref02_Shl_c wx (by omega) c
      rw [nv_dg (by omega), shn_of hc0 (by omega)] at S
      refine Ev.bind S (Ev.same ?_)
      rw [← he, gc_self (by omega)]
    · by_cases hlt : x < y
      · refine Ev.ifn (by unfold cmpI; rw [if_pos hlt]; omega) (Ev.ifp (by unfold cmpI; rw [if_pos hlt]; omega) ?_)
        rw [gc_comm]
        exact more y x h1 h0 ho2 ho1 hb2 hb1 hlt (by omega)
      · have hcm : cmpI x y = 1 := by unfold cmpI; rw [if_neg hlt, if_pos (by omega)]
        refine Ev.ifn (by rw [hcm]; omega) (Ev.ifn (by rw [hcm]; omega) ?_)
        exact more x y h0 h1 ho1 ho2 hb1 hb2 (by omega) (by omega)
theorem ref05_Gcd_c {a b : List Int} (ha : Wl a) (hb : Wl b) (hla : a.length ≤ 1000) (hlb : b.length ≤ 1000) : Ev (fun k => gradineref05_Gcd.f k a b) (dg (gc (nv a) (nv b))) := by
  have hA0 := nv_nonneg ha.1
  have hB0 := nv_nonneg hb.1
  have ba := bl_nv ha.1
  have bb := bl_nv hb.1
  refine Ev.bind (ref02_Size_c ha) ?_
  by_cases hza : nv a = 0
  · refine Ev.ifp (by rw [hza]; rfl) (Ev.bind (ref02_Trim_c hb) (Ev.same ?_))
    rw [hza, gc_comm, gc_zero hB0]
  · refine Ev.ifn (fun k => hza ((dg_len_zero hA0).1 (by omega))) (Ev.bind (ref02_Size_c hb) ?_)
    by_cases hzb : nv b = 0
    · refine Ev.ifp (by rw [hzb]; rfl) (Ev.bind (ref02_Trim_c ha) (Ev.same ?_))
      rw [hzb, gc_zero hA0]
    · refine Ev.ifn (fun k => hzb ((dg_len_zero hB0).1 (by omega))) (Ev.bind (ref02_Size_c ha) ?_)
      have long : Ev (fun k => gradineref05_Gcd.j0 k a b false) (dg (gc (nv a) (nv b))) := by
        refine Ev.step (fun k => gradineref05_Gcd.j0.eq_2 ..) (Ev.ifn (by decide) ?_)
        obtain ⟨n, n1, n2, n3⟩ := tz_split (show 0 < nv a by omega)
        obtain ⟨m, m1, m2, m3⟩ := tz_split (show 0 < nv b by omega)
        have tn := tz_lt (show 0 < nv a by omega)
        have tm := tz_lt (show 0 < nv b by omega)
        have Ea := ref02_Even_c ha
        have Eb := ref02_Even_c hb
        rw [n1] at Ea tn
        rw [m1] at Eb tm
        have Sa := ref02_Shr_c ha (n := (n : Int)) (by omega)
        have Sb := ref02_Shr_c hb (n := (m : Int)) (by omega)
        rw [Int.toNat_natCast] at Sa Sb
        refine Ev.bind Ea (Ev.bind Eb (Ev.bind Ea (Ev.bind Sa (Ev.bind Eb (Ev.bind Sb ?_)))))
        have qa : 0 ≤ nv a / 2 ^ n := Int.ediv_nonneg hA0 (by have := pow_pos n; omega)
        have qb : 0 ≤ nv b / 2 ^ m := Int.ediv_nonneg hB0 (by have := pow_pos m; omega)
        have qa1 : nv a / 2 ^ n ≤ nv a := Int.ediv_le_self _ hA0
        have qb1 : nv b / 2 ^ m ≤ nv b := Int.ediv_le_self _ hB0
        have ba1 := bl_mono qa1
        have bb1 := bl_mono qb1
        have hmn : mn (n : Int) (m : Int) = ((min n m : Nat) : Int) := by unfold mn; split <;> omega
        rw [hmn]
        have L := ref05_Gcd_l1 (c := ((min n m : Nat) : Int)) (by omega) (by omega) (nv a / 2 ^ n + nv b / 2 ^ m).toNat (nv a / 2 ^ n) (nv b / 2 ^ m) (Nat.le_refl _) (by omega) (by omega) n3 m3 (by omega) (by omega)
        rw [Int.toNat_natCast, ← gc_halves qa qb n3 m3 n m, ← n2, ← m2] at L
        exact L
      by_cases h1 : ((dg (nv a)).length : Int) = 1
      · refine Ev.ifp h1 (Ev.bind (ref02_Size_c hb) ?_)
        by_cases h2 : ((dg (nv b)).length : Int) = 1
        · rw [h2]
          obtain ⟨a1, a2, a3, a4⟩ := one_word ha.1 (by omega)
          obtain ⟨b1, b2, b3, b4⟩ := one_word hb.1 (by omega)
          refine Ev.step (fun k => gradineref05_Gcd.j0.eq_2 ..) (Ev.ifp rfl (Ev.ifp (by omega) (Ev.ifp (by omega) ?_)))
          rw [a2, b2]
          have g1 := gc_pos (a := nv a) (b := nv b) (.inl a3)
          have g2 := gc_split hA0 hB0
          have g3 : gc (nv a) (nv b) ≤ nv a := by
            have hq : 0 < nv a / gc (nv a) (nv b) := by
              rcases (show nv a / gc (nv a) (nv b) ≤ 0 ∨ 0 < nv a / gc (nv a) (nv b) by omega) with h | h
              · have := Int.ediv_nonneg hA0 (show 0 ≤ gc (nv a) (nv b) by omega)
                rw [show nv a / gc (nv a) (nv b) = 0 by omega, Int.zero_mul] at g2
                omega
              · exact h
            have := Int.mul_le_mul_of_nonneg_right (show 1 ≤ nv a / gc (nv a) (nv b) by omega) (Int.le_of_lt g1)
            rw [g2.1] at this
            omega
          have L := ref05_Gcd_l0 (nv b).toNat (nv a) (nv b) (Nat.le_refl _) a3 (by omega) a4 b4
          rw [dg_pos g1, dg_nil (by omega), Int.emod_eq_of_lt (by omega) (by omega)]
          exact L
        · have : (((dg (nv b)).length : Int) == 1) = false := by rw [beq_eq_false_iff_ne]; exact h2
          rw [this]
          exact long
      · exact Ev.ifn h1 long
end Go.Proofs.Ytbpggonjcnakgaa.M
end
section
namespace Go.Proofs.Ytbpggonjcnakgaa.M
open Go.RowKit Go.Proofs.YtbpggonjcnakgaaW.PrintWords Go.Proofs.YtbpggonjcnakgaaW.PrintLast Go.Proofs.YtbpggonjcnakgaaW.PrintMore
set_option linter.unusedVariables false

def ab (x : Int) : Int := if x < 0 then -x else x
/-- The number S / D. -/
def Rq (S D : Int) : Bool × List Int × List Int := if S = 0 then (false, [], [1]) else (decide (S < 0), dg (ab S / gc (ab S) D), dg (D / gc (ab S) D))
theorem gc_le {a b : Int} (ha : 0 ≤ a) (hb : 0 < b) : a / gc a b ≤ a ∧ b / gc a b ≤ b ∧ 0 < b / gc a b ∧ 0 ≤ a / gc a b := by
  have g := gc_pos (a := a) (b := b) (.inr hb)
  have s := gc_split ha (Int.le_of_lt hb)
  have h0 : 0 ≤ b / gc a b := Int.ediv_nonneg (by omega) (by omega)
  refine ⟨Int.ediv_le_self _ ha, Int.ediv_le_self _ (by omega), ?_, Int.ediv_nonneg ha (by omega)⟩
  rcases (show b / gc a b = 0 ∨ 0 < b / gc a b by omega) with h | h
  · rw [h, Int.zero_mul] at s
    omega
  · exact h
def sgI (s : Bool) (N : Int) : Int := if s then -N else N
end Go.Proofs.Ytbpggonjcnakgaa.M
end
section
namespace Go.Proofs.Ytbpggonjcnakgaa.M
open Go.RowKit Go.Proofs.Ytbpggonjcnakgaa.P Go.Proofs.YtbpggonjcnakgaaW.PrintWords Go.Proofs.YtbpggonjcnakgaaW.PrintLast Go.Proofs.YtbpggonjcnakgaaW.PrintMore
set_option linter.unusedVariables false

theorem Rq_of (neg : Bool) {n d : Int} (hn : 0 < n) : Rq (sgI neg n) d = (neg, dg (n / gc n d), dg (d / gc n d)) := by
  cases neg
  · show Rq n d = _
    have : ab n = n := by unfold ab; rw [if_neg (by omega)]
    unfold Rq
    rw [if_neg (show ¬ n = 0 by omega), decide_eq_false (show ¬ n < 0 by omega), this]
  · show Rq (-n) d = _
    have : ab (-n) = n := by unfold ab; rw [if_pos (by omega)]; omega
    unfold Rq
    rw [if_neg (show ¬ -n = 0 by omega), decide_eq_true (show -n < 0 by omega), this]
theorem Rq_zero (neg : Bool) (d : Int) : Rq (sgI neg 0) d = (false, [], [1]) := by
  unfold Rq sgI
  cases neg <;> rfl
theorem ref07_Make_c {a b : List Int} (neg : Bool) (ha : Wl a) (hb : Wl b) (hla : a.length ≤ 1000) (hlb : b.length ≤ 1000) (hB : 0 < nv b) : Ev (fun k => gradineref07_Make.f k neg a b) (Rq (sgI neg (nv a)) (nv b)) := by
  have hA0 := nv_nonneg ha.1
  refine Ev.bind (ref02_Size_c ha) ?_
  by_cases hz : nv a = 0
  · rw [hz, Rq_zero]
    exact Ev.ifp rfl (Ev.same rfl)
  · rw [Rq_of neg (by omega)]
    refine Ev.ifn (fun k => hz ((dg_len_zero hA0).1 (by omega))) (Ev.bind (ref05_Gcd_c ha hb hla hlb) ?_)
    have g := gc_nonneg (nv a) (nv b)
    have gle : gc (nv a) (nv b) ≤ nv a := by
      have s := gc_split hA0 (Int.le_of_lt hB)
      have l := gc_le (a := nv b) (b := nv a) (Int.le_of_lt hB) (by omega)
      rw [gc_comm] at l
      have := Int.mul_le_mul_of_nonneg_right (show 1 ≤ nv a / gc (nv a) (nv b) by omega) g
      rw [s.1] at this
      omega
    have ba := bl_nv ha.1
    have bg := bl_mono gle
    have lg := dg_len_bl (gc (nv a) (nv b))
    have P1 := ref05_Part_c ha (g := dg (gc (nv a) (nv b))) (Wl_dg (by omega)) hla (by omega)
    have P2 := ref05_Part_c hb (g := dg (gc (nv a) (nv b))) (Wl_dg (by omega)) hlb (by omega)
    rw [nv_dg g] at P1 P2
    exact Ev.bind P1 (Ev.bind P2 (Ev.same rfl))
end Go.Proofs.Ytbpggonjcnakgaa.M
end
section
namespace Go.Proofs.Ytbpggonjcnakgaa.M
open Go.RowKit Go.Proofs.Ytbpggonjcnakgaa.P Go.Proofs.YtbpggonjcnakgaaW.PrintWords Go.Proofs.YtbpggonjcnakgaaW.PrintLast Go.Proofs.YtbpggonjcnakgaaW.PrintMore
set_option linter.unusedVariables false

theorem ref07_Of_c {n : Int} (h0 : -9223372036854775808 ≤ n) (h1 : n ≤ 9223372036854775807) : Ev (fun k => gradineref07_Of.f k n) (Rq n 1) := by
  have w1 : Wl [1] := ⟨Ws_one (by unfold U; omega), by decide⟩
  by_cases hn : n < 0
  · have e : IntKind.u64.wrap (-(IntKind.u64.wrap n)) = -n := by
      have : IntKind.u64.wrap n = n + 18446744073709551616 := by
        show n % 18446744073709551616 = _
        omega
      rw [this]
      show (-(n + 18446744073709551616)) % 18446744073709551616 = _
      omega
    refine Ev.ifp hn ?_
    rw [e]
    have M := ref07_Make_c true (a := [-n]) (b := [1]) ⟨Ws_one (by unfold U; omega), by simp⟩ w1 (by simp) (by decide) (by rw [nv_one]; omega)
    rw [nv_one, nv_one, show sgI true (-n) = n by unfold sgI; simp] at M
    exact Ev.bind M (Ev.same rfl)
  · refine Ev.ifn hn ?_
    rw [wu_id (n := n) (by omega) (by omega)]
    have M := ref07_Make_c false (a := [n]) (b := [1]) ⟨Ws_one (by unfold U; omega), by simp⟩ w1 (by simp) (by decide) (by rw [nv_one]; omega)
    rw [nv_one, nv_one, show sgI false n = n by unfold sgI; simp] at M
    exact Ev.bind M (Ev.same rfl)
end Go.Proofs.Ytbpggonjcnakgaa.M
end
section
namespace Go.Proofs.Ytbpggonjcnakgaa.M
open Go.RowKit Go.Proofs.Ytbpggonjcnakgaa.P Go.Proofs.YtbpggonjcnakgaaW.PrintWords Go.Proofs.YtbpggonjcnakgaaW.PrintLast Go.Proofs.YtbpggonjcnakgaaW.PrintMore
set_option linter.unusedVariables false

theorem or_top {x : Int} (h0 : 0 ≤ x) (h1 : x < 9223372036854775808) : Go.bits .or .u64 x 9223372036854775808 = x + 9223372036854775808 := by
  rw [or_comm _ _ h0 (by omega) (by omega) (by omega), or_join 63 _ _ (by omega) (by omega) (by omega) h0 (by omega) (by omega)]
  omega
theorem fbits_signed_c {x : Int} (neg : Bool) (h0 : 0 ≤ x) (h1 : x < 9223372036854775808) : fbits_signed.f neg x = some (sgn neg x) := by
  unfold fbits_signed.f sgn
  rw [or_top h0 h1]
  cases neg <;> rfl
theorem fbits_Inf_c (neg : Bool) : fbits_Inf.f neg = some (sgn neg INF) := by
  unfold fbits_Inf.f
  rw [fbits_signed_c neg (by decide) (by decide)]
  rfl
/-! ### Make -/
theorem far_no {m u e : Int} (h0 : 0 < m) (h1 : m < 18446744073709551616) (h : 64 ≤ u - e) : m * 2 ^ (e - u).toNat % 2 ^ (u - e).toNat ≠ 0 := by
  have := pow_le_pow (a := 64) (b := (u - e).toNat) (by omega)
  rw [show (e - u).toNat = 0 by omega, Int.pow_zero, Int.mul_one, Int.emod_eq_of_lt (by omega) (by omega)]
  omega
theorem un_text {m e : Int} (hm : U m) (he : -5000 ≤ e) (he' : e ≤ 5000) : mx (wrap64 ((wrap64 (e + bl m)) - 53)) (-1074) = un m e := by
  have h1 := bl_64 hm.2
  have h2 := bl_nonneg m
  rw [w64_id (n := e + bl m) (by omega) (by omega), w64_id (by omega) (by omega)]
  unfold mx un
  generalize bl m = n at *
  split <;> omega
theorem fbits_Make_j2 {w u : Int} (neg : Bool) (h0 : 0 ≤ w) (h1 : w < 9007199254740992) (hu0 : -1074 ≤ u) (hu1 : u ≤ 971) (hw : u = -1074 ∨ 4503599627370496 ≤ w) :
    Ev (fun k => fbits_Make.j2 k neg w u) (sgn neg ((u + 1074) * 4503599627370496 + w), true) := by
  refine Ev.eqv (fun k => fbits_Make.j2.eq_1 ..) ?_
  by_cases h : w < 4503599627370496
  · refine Ev.ifp h (Ev.bindc (fbits_signed_c neg h0 (by omega)) (Ev.same ?_))
    rw [show (u + 1074) * 4503599627370496 + w = w by omega]
  · refine Ev.ifn h ?_
    rw [and52 w h0 (by omega), w64_id (by omega) (by omega), wu_id (n := u + 1075) (by omega) (by omega), wu_id (by omega) (by omega), or_join 52 _ _ (by omega) (by omega) (by omega) (by omega) (by omega) (by omega)]
    rw [show (u + 1075) * 4503599627370496 + w % 4503599627370496 = (u + 1074) * 4503599627370496 + w by omega]
    exact Ev.bindc (fbits_signed_c neg (by omega) (by omega)) (Ev.same rfl)
theorem fbits_Make_c {m e : Int} (neg : Bool) (hm : U m) (he0 : -9223372036854775808 ≤ e) (he1 : e ≤ 9223372036854775807) : Ev (fun k => fbits_Make.f k neg m e) (Mk neg m e) := by
  obtain ⟨hm0, hm1⟩ := id hm
  have hu : un m e = max (bl m + e - 53) (-1074) := rfl
  by_cases hz : m = 0
  · refine Ev.ifp hz (Ev.bindc (fbits_signed_c neg (by omega) (by omega)) (Ev.same ?_))
    rw [hz, Mk_zero]
  · have hp : 0 < m := by omega
    have b1 := bl_pos hp
    have b2 := bl_64 hm1
    refine Ev.ifn hz ?_
    by_cases h1 : e > 2000
    · refine Ev.ifp h1 (Ev.eqv (fun k => fbits_Make.j0.eq_1 ..) (Ev.ifp rfl (Ev.same ?_)))
      rw [Mk_no neg hz (.inl (by omega))]
    · refine Ev.ifn h1 (Ev.eqv (fun k => fbits_Make.j0.eq_1 ..) ?_)
      by_cases h2 : e < -2000
      · refine Ev.ifp (decide_eq_true h2) (Ev.same ?_)
        rw [Mk_no neg hz (.inr (far_no hp hm1 (by omega)))]
      · refine Ev.ifn (by rw [decide_eq_false h2]; decide) (Ev.bind (limb_Len_c hm) ?_)
        have hq := un_q (e := e) hp
        rw [un_text hm (by omega) (by omega), w64_id (by omega) (by omega)]
        by_cases h3 : un m e > 971
        · refine Ev.ifp h3 (Ev.eqv (fun k => fbits_Make.j1.eq_1 ..) (Ev.ifp rfl (Ev.same ?_)))
          rw [Mk_no neg hz (.inl h3)]
        · refine Ev.ifn h3 (Ev.eqv (fun k => fbits_Make.j1.eq_1 ..) ?_)
          by_cases h4 : un m e - e ≥ 64
          · refine Ev.ifp (decide_eq_true h4) (Ev.same ?_)
            rw [Mk_no neg hz (.inr (far_no hp hm1 (by omega)))]
          · refine Ev.ifn (by rw [decide_eq_false h4]; decide) ?_
            by_cases h5 : un m e - e > 0
            · refine Ev.ifp h5 (Ev.ifp (by omega) ?_)
              obtain ⟨s, hs⟩ : ∃ s : Nat, un m e - e = s := ⟨(un m e - e).toNat, by omega⟩
              have hps := pow_pos s
              have hd := Int.mul_ediv_add_emod m (2 ^ s)
              have hr := Int.emod_nonneg m (show (2 : Int) ^ s ≠ 0 by omega)
              have hd0 : 0 ≤ m / 2 ^ s := Int.ediv_nonneg hm0 (by omega)
              have hd1 : 0 ≤ m / 2 ^ s * 2 ^ s := Int.mul_nonneg hd0 (by omega)
              have e0 : m * 2 ^ (e - un m e).toNat = m := by rw [show (e - un m e).toNat = 0 by omega, Int.pow_zero, Int.mul_one]
              rw [Int.mul_comm] at hd
              rw [e0] at hq
              rw [hs] at hq ⊢
              rw [shr_u _ _ (by omega), shl_u _ _ (by omega)]
              rw [Int.toNat_natCast] at hq ⊢
              rw [Int.emod_eq_of_lt hd1 (by omega)]
              by_cases h6 : m / 2 ^ s * 2 ^ s = m
              · refine Ev.ifp h6 ((fbits_Make_j2 neg hq.1 hq.2.1 (by omega) (by omega) hq.2.2).eqr ?_)
                have h7 : m % 2 ^ s = 0 := by omega
                rw [Mk_yes neg hz (by omega) (by rw [e0, hs, Int.toNat_natCast]; exact h7), Rd_exact hp (by omega) (by rw [e0, hs, Int.toNat_natCast]; exact h7), e0, hs, Int.toNat_natCast]
              · refine Ev.ifn h6 (Ev.same ?_)
                rw [Mk_no neg hz (.inr (by rw [e0, hs, Int.toNat_natCast]; omega))]
            · refine Ev.ifn h5 ?_
              rw [w64_id (by omega) (by omega)]
              refine Ev.ifp (by omega) ?_
              obtain ⟨t, ht⟩ : ∃ t : Nat, -(un m e - e) = t := ⟨(-(un m e - e)).toNat, by omega⟩
              have e1 : (e - un m e).toNat = t := by omega
              have e2 : (un m e - e).toNat = 0 := by omega
              rw [e1, e2, Int.pow_zero, Int.ediv_one] at hq
              rw [ht, shl_u _ _ (by omega), Int.toNat_natCast, Int.emod_eq_of_lt hq.1 (by omega)]
              refine (fbits_Make_j2 neg hq.1 hq.2.1 (by omega) (by omega) hq.2.2).eqr ?_
              rw [Mk_yes neg hz (by omega) (by rw [e2, Int.pow_zero, Int.emod_one]), Rd_exact hp (by omega) (by rw [e2, Int.pow_zero, Int.emod_one]), e1, e2, Int.pow_zero, Int.ediv_one]

/-! ### The reference -/
theorem ref09_Signed_c {x : Int} (neg : Bool) (h0 : 0 ≤ x) (h1 : x < 9223372036854775808) : gradineref09_Signed.f neg x = some (sgn neg x) := by
  unfold gradineref09_Signed.f sgn
  rw [wu_id (by omega) (by omega)]
  cases neg <;> rfl
theorem ref09_Inf_c (neg : Bool) : gradineref09_Inf.f neg = some (sgn neg INF) := by
  unfold gradineref09_Inf.f
  rw [ref09_Signed_c neg (by decide) (by decide)]
  rfl
theorem ref09_Make_l1 (neg : Bool) (n : Nat) : ∀ m e : Int, (e + 1074).toNat ≤ n → 0 < m → m < 9007199254740992 → -1074 ≤ e → e ≤ 3000 → Ev (fun k => gradineref09_Make.l1 k neg m e) (Mk neg m e) := by
  have fin : ∀ m e : Int, 0 < m → m < 9007199254740992 → -1074 ≤ e → e ≤ 3000 → (e = -1074 ∨ 4503599627370496 ≤ m) → Ev (fun k => gradineref09_Make.j4 k neg m e) (Mk neg m e) := by
    intro m e h0 h1 h2 h3 hw
    have hu : un m e = e := by
      rcases Int.lt_or_le m 4503599627370496 with h | h
      · have := bl_le_of (x := m) (n := 52) h
        unfold un
        omega
      · rw [un_bl (n := 52) h h1]
        omega
    refine Ev.step (fun k => gradineref09_Make.j4.eq_2 ..) ?_
    have e0 : m * 2 ^ (e - un m e).toNat % 2 ^ (un m e - e).toNat = 0 := by rw [hu, show (e - e).toNat = 0 by omega, Int.pow_zero, Int.emod_one]
    by_cases h : m < 4503599627370496
    · refine Ev.ifp h (Ev.bindc (ref09_Signed_c neg (by omega) (by omega)) (Ev.same ?_))
      rw [Mk_yes neg (by omega) (by omega) e0, (Rd_made h0 (by omega) h2 (by omega) hw).2.2.2]
      rw [show (e + 1074) * 4503599627370496 + m = m by omega]
    · refine Ev.ifn h ?_
      by_cases h4 : e > 971
      · refine Ev.ifp h4 (Ev.same ?_)
        rw [Mk_no neg (by omega) (.inl (by omega))]
      · refine Ev.ifn h4 ?_
        rw [w64_id (by omega) (by omega), wu_id (n := e + 1075) (by omega) (by omega), wu_id (n := (e + 1075) * 4503599627370496) (by omega) (by omega), wu_id (n := (e + 1075) * 4503599627370496 + m) (by omega) (by omega), wu_id (by omega) (by omega)]
        refine Ev.bindc (ref09_Signed_c neg (by omega) (by omega)) (Ev.same ?_)
        rw [Mk_yes neg (by omega) (by omega) e0, (Rd_made h0 (by omega) h2 (by omega) hw).2.2.2]
        rw [show (e + 1075) * 4503599627370496 + m - 4503599627370496 = (e + 1074) * 4503599627370496 + m by omega]
  induction n with
  | zero =>
    intro m e hn h0 h1 h2 h3
    refine Ev.step (fun k => gradineref09_Make.l1.eq_2 ..) ?_
    by_cases h : m < 4503599627370496
    · exact Ev.ifp h (Ev.ifn (by omega) (fin m e h0 h1 h2 h3 (.inl (by omega))))
    · exact Ev.ifn h (fin m e h0 h1 h2 h3 (.inr (by omega)))
  | succ n ih =>
    intro m e hn h0 h1 h2 h3
    refine Ev.step (fun k => gradineref09_Make.l1.eq_2 ..) ?_
    by_cases h : m < 4503599627370496
    · refine Ev.ifp h ?_
      by_cases h4 : e > -1074
      · refine Ev.ifp h4 ?_
        rw [wu_id (by omega) (by omega), w64_id (by omega) (by omega), ← Mk_scale neg h0 e]
        exact ih (m * 2) (e - 1) (by omega) (by omega) (by omega) (by omega) (by omega)
      · exact Ev.ifn h4 (fin m e h0 h1 h2 h3 (.inl (by omega)))
    · exact Ev.ifn h (fin m e h0 h1 h2 h3 (.inr (by omega)))
theorem ref09_Make_l0 (neg : Bool) (n : Nat) : ∀ m e : Int, m.toNat ≤ n → 0 < m → m < 18446744073709551616 → -1200 ≤ e → e + bl m ≤ 2000 → Ev (fun k => gradineref09_Make.l0 k neg m e) (Mk neg m e) := by
  induction n with
  | zero => intro m e hn h0; omega
  | succ n ih =>
    intro m e hn h0 h1 h2 h3
    have hb := bl_pos h0
    refine Ev.step (fun k => gradineref09_Make.l0.eq_2 ..) ?_
    rw [Int.tmod_eq_emod_of_nonneg (by omega), Int.tdiv_eq_ediv_of_nonneg (by omega)]
    by_cases ho : m % 2 = 0
    · refine Ev.ifp ho ?_
      have hb2 := bl_shr (x := m) (s := 1) (by omega)
      rw [Int.pow_one] at hb2
      rw [wu_id (by omega) (by omega), w64_id (by omega) (by omega)]
      have hs := Mk_scale neg (show 0 < m / 2 by omega) (e + 1)
      rw [show m / 2 * 2 = m by omega, show e + 1 - 1 = e by omega] at hs
      rw [hs]
      exact ih (m / 2) (e + 1) (by omega) (by omega) (by omega) (by omega) (by omega)
    · refine Ev.ifn ho ?_
      have hu : un m e = max (bl m + e - 53) (-1074) := rfl
      have odd : un m e > e → Mk neg m e = (0, false) := by
        intro h
        refine Mk_no neg (by omega) (.inr ?_)
        obtain ⟨j, hj⟩ : ∃ j : Nat, (un m e - e).toNat = j + 1 := ⟨(un m e - e).toNat - 1, by omega⟩
        rw [show (e - un m e).toNat = 0 by omega, hj, Int.pow_zero, Int.mul_one, Int.pow_succ, Int.mul_comm, mod_split _ (by omega)]
        have := Int.emod_nonneg (m / 2) (show (2 : Int) ^ j ≠ 0 by have := pow_pos j; omega)
        omega
      by_cases h4 : m ≥ 9007199254740992
      · refine Ev.ifp h4 (Ev.step (fun k => gradineref09_Make.j2.eq_2 ..) (Ev.ifp rfl (Ev.same ?_)))
        have := bl_ge' (x := m) (n := 53) (by omega)
        rw [odd (by omega)]
      · refine Ev.ifn h4 (Ev.step (fun k => gradineref09_Make.j2.eq_2 ..) ?_)
        by_cases h5 : e < -1074
        · refine Ev.ifp (decide_eq_true h5) (Ev.same ?_)
          rw [odd (by omega)]
        · refine Ev.ifn (by rw [decide_eq_false h5]; decide) ?_
          exact ref09_Make_l1 neg (e + 1074).toNat m e (Nat.le_refl _) h0 (by omega) (by omega) (by omega)
theorem ref09_Make_c {m e : Int} (neg : Bool) (hm : U m) : Ev (fun k => gradineref09_Make.f k neg m e) (Mk neg m e) := by
  obtain ⟨hm0, hm1⟩ := id hm
  have hu : un m e = max (bl m + e - 53) (-1074) := rfl
  by_cases hz : m = 0
  · refine Ev.ifp hz (Ev.bindc (ref09_Signed_c neg (by omega) (by omega)) (Ev.same ?_))
    rw [hz, Mk_zero]
  · have hp : 0 < m := by omega
    have b1 := bl_pos hp
    have b2 := bl_64 hm1
    refine Ev.ifn hz ?_
    by_cases h1 : e < -1200
    · refine Ev.ifp h1 (Ev.step (fun k => gradineref09_Make.j0.eq_2 ..) (Ev.ifp rfl (Ev.same ?_)))
      rw [Mk_no neg hz (.inr (far_no hp hm1 (by omega)))]
    · refine Ev.ifn h1 (Ev.step (fun k => gradineref09_Make.j0.eq_2 ..) ?_)
      by_cases h2 : e > 1200
      · refine Ev.ifp (decide_eq_true h2) (Ev.same ?_)
        rw [Mk_no neg hz (.inl (by omega))]
      · refine Ev.ifn (by rw [decide_eq_false h2]; decide) ?_
        exact ref09_Make_l0 neg m.toNat m e (Nat.le_refl _) hp hm1 (by omega) (by omega)
end Go.Proofs.Ytbpggonjcnakgaa.M
end
section
namespace Go.Proofs.Ytbpggonjcnakgaa.M
open Go.RowKit Go.Proofs.Ytbpggonjcnakgaa.P Go.Proofs.YtbpggonjcnakgaaW.PrintWords Go.Proofs.YtbpggonjcnakgaaW.PrintLast Go.Proofs.YtbpggonjcnakgaaW.PrintMore
set_option linter.unusedVariables false

theorem fround_made_c {w u : Int} (neg : Bool) (h0 : 0 ≤ w) (h1 : w ≤ 9007199254740992) (hu0 : -1074 ≤ u) (hu1 : u ≤ 971) (hw : u = -1074 ∨ 4503599627370496 ≤ w) :
    Ev (fun k => fround_made.f k neg w u) (sgn neg ((u + 1074) * 4503599627370496 + w)) := by
  refine Ev.bind (fbits_Make_c neg (m := w) (e := u) (by unfold U; omega) (by omega) (by omega)) ?_
  have hk := Mk_made (neg := neg) h0 h1 hu0 hu1 hw
  by_cases h : (Mk neg w u).2 = true
  · rw [if_pos h] at hk
    exact Ev.ifp h (Ev.same (congrArg some hk))
  · rw [if_neg h] at hk
    exact Ev.ifn h (Ev.bindc (fbits_Inf_c neg) (Ev.same (congrArg some hk)))
theorem fround_made_zero (neg : Bool) : Ev (fun k => fround_made.f k neg 0 0) (sgn neg 0) := by
  refine Ev.bind (fbits_Make_c neg (m := 0) (e := 0) (by unfold U; omega) (by omega) (by omega)) ?_
  rw [Mk_zero]
  exact Ev.ifp rfl (Ev.same rfl)
theorem fround_even_c {x : Int} (h0 : 0 ≤ x) (h1 : x < 9223372036854775808) (half more : Bool) : fround_even.f x half more = some (if half = true ∧ (more = true ∨ x % 2 = 1) then x + 1 else x) := by
  unfold fround_even.f
  rw [and1 x h0 (by omega), wu_id (by omega) (by omega)]
  cases half
  · simp
  · cases more
    · simp only [Bool.false_eq_true, if_true, if_false, false_or, true_and]
      split <;> rfl
    · simp
/-- The exponents that are gone through. -/
def ce (e : Int) : Int := mn (mx e (-1099511627776)) 1099511627776
theorem ce_range (e : Int) : -1099511627776 ≤ ce e ∧ ce e ≤ 1099511627776 := by
  unfold ce mn mx
  split <;> split <;> omega
theorem ce_id {e : Int} (h0 : -1099511627776 ≤ e) (h1 : e ≤ 1099511627776) : ce e = e := by
  unfold ce mn mx
  split <;> split <;> omega
theorem un_text2 {m e : Int} (hm : bl m ≤ 1000000) (he : -1099511627776 ≤ e) (he' : e ≤ 1099511627776) : mx (wrap64 ((wrap64 (bl m + e)) - 53)) (-1074) = un m e := by
  have h2 := bl_nonneg m
  rw [w64_id (n := bl m + e) (by omega) (by omega), w64_id (by omega) (by omega)]
  unfold mx un
  generalize bl m = n at *
  split <;> omega
theorem half_word {G H r : Int} (hG : 0 < G) (hGH : G * H = 9223372036854775808) (h0 : 0 ≤ r) (h1 : r < 2 * H) :
    (G * r / 9223372036854775808 == 1) = decide (r ≥ H) ∧ (r > H → (G * r * 2 % 18446744073709551616 != 0) = true) ∧ (r = H → (G * r * 2 % 18446744073709551616 != 0) = false) := by
  have e1 : G * (2 * H) = 18446744073709551616 := by rw [Int.mul_left_comm, hGH]; rfl
  have b0 : 0 ≤ G * r := Int.mul_nonneg (by omega) h0
  have b1 : G * r < 18446744073709551616 := by rw [← e1]; exact Int.mul_lt_mul_of_pos_left h1 hG
  rcases Int.lt_trichotomy r H with h | h | h
  · have : G * r < 9223372036854775808 := by rw [← hGH]; exact Int.mul_lt_mul_of_pos_left h hG
    refine ⟨?_, fun k => by omega, fun k => by omega⟩
    rw [decide_eq_false (by omega), beq_eq_false_iff_ne]
    omega
  · subst h
    refine ⟨?_, fun k => by omega, fun _ => ?_⟩
    · rw [decide_eq_true (by omega), beq_iff_eq]
      omega
    · rw [bne_eq_false_iff_eq]
      omega
  · have : 9223372036854775808 < G * r := by rw [← hGH]; exact Int.mul_lt_mul_of_pos_left h hG
    refine ⟨?_, fun _ => ?_, fun k => by omega⟩
    · rw [decide_eq_true (by omega), beq_iff_eq]
      omega
    · rw [bne_iff_ne]
      omega
theorem Rd_pos {m e : Int} (h : 0 < m) (hu : un m e ≤ 971) : Rd m e = (un m e + 1074) * 4503599627370496 + ru m e (un m e) := by
  unfold Rd
  rw [if_neg (by omega), if_neg (by omega)]
theorem Rd_over {m e : Int} (h : 0 < m) (hu : un m e > 971) : Rd m e = INF := by
  unfold Rd
  rw [if_neg (by omega), if_pos hu]
theorem fround_Word_c {m e : Int} (neg : Bool) (hm : U m) : Ev (fun k => fround_Word.f k neg m e) (sgn neg (Rd m (ce e))) := by
  obtain ⟨hm0, hm1⟩ := id hm
  have hE := ce_range e
  by_cases hz : m = 0
  · refine Ev.ifp hz (Ev.bind (fround_made_zero neg) (Ev.same ?_))
    rw [hz, Rd_zero]
  · have hp : 0 < m := by omega
    have b1 := bl_pos hp
    have b2 := bl_64 hm1
    refine Ev.ifn hz (Ev.bind (limb_Len_c hm) ?_)
    have eE : mn (mx e (-1099511627776)) 1099511627776 = ce e := rfl
    rw [eE]
    generalize ce e = E at *
    rw [un_text2 (by omega) (by omega) (by omega)]
    have hu : un m E = max (bl m + E - 53) (-1074) := rfl
    have hq := un_q (e := E) hp
    have hr := ru_units (e := E) hp
    by_cases h1 : un m E > 971
    · refine Ev.ifp h1 (Ev.bindc (fbits_Inf_c neg) (Ev.same ?_))
      rw [Rd_over hp h1]
    · refine Ev.ifn h1 ?_
      rw [w64_id (n := un m E - E) (by omega) (by omega), Rd_pos hp (by omega)]
      by_cases h2 : un m E - E ≤ 0
      · refine Ev.ifp h2 ?_
        rw [w64_id (by omega) (by omega)]
        refine Ev.ifp (by omega) ?_
        by_cases ht : -(un m E - E) ≤ 64
        · have e0 : ru m E (un m E) = m * 2 ^ (E - un m E).toNat := by
            unfold ru
            rw [show (un m E - E).toNat = 0 by omega, rnd_zero]
          rw [show (un m E - E).toNat = 0 by omega, Int.pow_zero, Int.ediv_one] at hq
          rw [e0] at hr ⊢
          rw [shl_u _ _ (by omega), show (-(un m E - E)).toNat = (E - un m E).toNat by omega, Int.emod_eq_of_lt hq.1 (by omega)]
          exact Ev.bind (fround_made_c neg hr.1 hr.2.1 (by omega) (by omega) hr.2.2) (Ev.same rfl)
        · exfalso
          omega
      · refine Ev.ifn h2 ?_
        by_cases h3 : un m E - E > 64
        · refine Ev.ifp h3 (Ev.bind (fround_made_zero neg) (Ev.same ?_))
          have hu2 : un m E = -1074 := by omega
          have e0 : ru m E (un m E) = 0 := by
            unfold ru
            rw [show (E - un m E).toNat = 0 by omega, Int.pow_zero, Int.mul_one]
            have := pow_le_pow (a := 65) (b := (un m E - E).toNat) (by omega)
            exact rnd_small hm0 (by omega)
          rw [e0, hu2]
          rfl
        · refine Ev.ifn h3 ?_
          obtain ⟨d, hd⟩ : ∃ d : Nat, un m E - E = ((d + 1 : Nat) : Int) := ⟨(un m E - E).toNat - 1, by omega⟩
          have hd63 : d + 1 ≤ 64 := by omega
          have e0 : ru m E (un m E) = rnd m (d + 1) := by
            unfold ru
            rw [show (E - un m E).toNat = 0 by omega, Int.pow_zero, Int.mul_one, hd, Int.toNat_natCast]
          rw [show (E - un m E).toNat = 0 by omega, Int.pow_zero, Int.mul_one, hd, Int.toNat_natCast] at hq
          rw [e0] at hr ⊢
          rw [hd, w64_id (by omega) (by omega), w64_id (n := ((d + 1 : Nat) : Int) - 1) (by omega) (by omega)]
          refine Ev.ifp (by omega) (Ev.ifp (by omega) ?_)
          have hH : (2 : Int) ^ (d + 1) = 2 * 2 ^ d := by rw [Int.pow_succ, Int.mul_comm]
          have hGH : (2 : Int) ^ (64 - (d + 1)) * 2 ^ d = 9223372036854775808 := by rw [← Int.pow_add, show 64 - (d + 1) + d = 63 by omega]; rfl
          rw [shr_u _ _ (by omega), shl_u _ _ (by omega), show (((d + 1 : Nat) : Int) - 1).toNat = d by omega, show (64 - ((d + 1 : Nat) : Int)).toNat = 64 - (d + 1) by omega, mod_up m hd63, wu]
          have e1 : m / 2 / 2 ^ d = m / 2 ^ (d + 1) := by rw [Int.ediv_ediv_of_nonneg (by omega), ← hH]
          rw [e1]
          have r0 := Int.emod_nonneg m (show (2 : Int) ^ (d + 1) ≠ 0 by have := pow_pos (d + 1); omega)
          have r1 := Int.emod_lt_of_pos m (pow_pos (d + 1))
          have hw := half_word (G := 2 ^ (64 - (d + 1))) (H := 2 ^ d) (r := m % 2 ^ (d + 1)) (pow_pos _) hGH r0 (by omega)
          rw [hw.1]
          have he := fround_even_c (x := m / 2 ^ (d + 1)) hq.1 (by omega) (decide (m % 2 ^ (d + 1) ≥ 2 ^ d)) (2 ^ (64 - (d + 1)) * (m % 2 ^ (d + 1)) * 2 % 18446744073709551616 != 0)
          have hv : (if decide (m % 2 ^ (d + 1) ≥ 2 ^ d) = true ∧ ((2 ^ (64 - (d + 1)) * (m % 2 ^ (d + 1)) * 2 % 18446744073709551616 != 0) = true ∨ m / 2 ^ (d + 1) % 2 = 1) then m / 2 ^ (d + 1) + 1 else m / 2 ^ (d + 1)) = rnd m (d + 1) := by
            unfold rnd
            rcases Int.lt_trichotomy (m % 2 ^ (d + 1)) (2 ^ d) with h | h | h
            · rw [if_neg (by simp; omega), if_neg (by omega)]
            · rw [hw.2.2 h]
              by_cases ho : m / 2 ^ (d + 1) % 2 = 1
              · rw [if_pos ⟨decide_eq_true (by omega), .inr ho⟩, if_pos (.inr ⟨by omega, ho⟩)]
              · rw [if_neg (by simp [ho]), if_neg (by omega)]
            · rw [hw.2.1 h, if_pos ⟨decide_eq_true (by omega), .inl rfl⟩, if_pos (.inl (by omega))]
          rw [hv] at he
          refine Ev.bindc he ?_
          exact Ev.bind (fround_made_c neg hr.1 hr.2.1 (by omega) (by omega) hr.2.2) (Ev.same rfl)
theorem fround_FromInt_c {n : Int} (h0 : -9223372036854775808 ≤ n) (h1 : n ≤ 9223372036854775807) : Ev (fun k => fround_FromInt.f k n) (sgn (decide (n < 0)) (Rd (if n < 0 then -n else n) 0)) := by
  by_cases h : n < 0
  · rw [decide_eq_true h, if_pos h]
    refine Ev.ifp h ?_
    have e : IntKind.u64.wrap (-(IntKind.u64.wrap n)) = -n := by rw [wu, wu]; omega
    rw [e]
    refine Ev.bind (fround_Word_c (e := 0) true (by unfold U; omega)) (Ev.same ?_)
    rw [ce_id (by omega) (by omega)]
  · rw [decide_eq_false h, if_neg h]
    refine Ev.ifn h ?_
    rw [wu_id (by omega) (by omega)]
    refine Ev.bind (fround_Word_c (e := 0) false (by unfold U; omega)) (Ev.same ?_)
    rw [ce_id (by omega) (by omega)]
end Go.Proofs.Ytbpggonjcnakgaa.M
end
section
namespace Go.Proofs.Ytbpggonjcnakgaa.M
open Go.RowKit Go.Proofs.YtbpggonjcnakgaaW.PrintWords Go.Proofs.YtbpggonjcnakgaaW.PrintLast Go.Proofs.YtbpggonjcnakgaaW.PrintMore
set_option linter.unusedVariables false

theorem tz_mod {x : Int} (h : 0 < x) (i : Nat) : x % 2 ^ i = 0 ↔ (i : Int) ≤ tz x := by
  obtain ⟨n, h1, h2, h3⟩ := tz_spec h
  have key : ∀ j : Nat, j ≤ n → x % 2 ^ j = 0 := by
    intro j
    induction j with
    | zero => intro _; rw [Int.pow_zero, Int.emod_one]
    | succ j ih =>
      intro hj
      rw [Int.pow_succ, mod_split x (pow_pos j), h3 j (by omega), ih (by omega)]
      simp
  rw [h1]
  constructor
  · intro k
    rcases Nat.lt_or_ge n i with hlt | hge
    · exfalso
      have e : (2 : Int) ^ i = 2 ^ n * (2 * 2 ^ (i - n - 1)) := by
        rw [← Int.pow_succ', ← Int.pow_add]; congr 1; omega
      rw [e] at k
      have h5 := mod_split x (D := 2 * 2 ^ (i - n - 1)) (pow_pos n)
      rw [k, key n (Nat.le_refl _)] at h5
      have h6 : x / 2 ^ n % (2 * 2 ^ (i - n - 1)) = 0 := by
        have hp := pow_pos n
        have : (2 : Int) ^ n * (x / 2 ^ n % (2 * 2 ^ (i - n - 1))) = 0 := by omega
        rcases Int.mul_eq_zero.1 this with h7 | h7 <;> omega
      have h7 := Int.emod_emod_of_dvd (x / 2 ^ n) (show (2 : Int) ∣ 2 * 2 ^ (i - n - 1) from ⟨_, rfl⟩)
      rw [h6] at h7
      omega
    · omega
  · intro k
    exact key i (by omega)
end Go.Proofs.Ytbpggonjcnakgaa.M
end
section
namespace Go.Proofs.Ytbpggonjcnakgaa.M
open Go.RowKit Go.Proofs.Ytbpggonjcnakgaa.P Go.Proofs.YtbpggonjcnakgaaW.PrintWords Go.Proofs.YtbpggonjcnakgaaW.PrintLast Go.Proofs.YtbpggonjcnakgaaW.PrintMore
set_option linter.unusedVariables false

theorem Rd_ce {N e : Int} (hN : 0 ≤ N) (hb : bl N ≤ 10000) (h0 : -1099511627777 ≤ e) (h1 : e ≤ 1099511627776) : Rd N (ce e) = Rd N e := by
  have hE := ce_range e
  rcases (show -1099511627776 ≤ e ∨ e = -1099511627777 by omega) with h | h
  · rw [ce_id h h1]
  · have : ce e = -1099511627776 := by rw [h]; decide
    rw [Rd_none hN (by omega), Rd_none hN (by omega)]
theorem fround_Of_j {l : List Int} (neg : Bool) (hl : Wl l) (hn : l.length ≤ 150) {e : Int} (he0 : -1099511627777 ≤ e) (he1 : e ≤ 1099511627776) : Ev (fun k => fround_Of.j0 k neg l e) (sgn neg (Rd (nv l) e)) := by
  have h0 := nv_nonneg hl.1
  have hb := bl_nv hl.1
  refine Ev.step (fun k => fround_Of.j0.eq_2 ..) (Ev.bind (nat_Bits_c hl) ?_)
  have hbN : bl (nv l) ≤ 10000 := by omega
  have hb0 := bl_nonneg (nv l)
  by_cases h1 : bl (nv l) ≤ 64
  · refine Ev.ifp h1 (Ev.bind (nat_Word_c hl) ?_)
    have hw : nv l < 18446744073709551616 := by
      have h2 := bl_lt (nv l)
      have h3 := pow_le_pow (a := (bl (nv l)).toNat) (b := 64) (by omega)
      have h4 : (2 : Int) ^ 64 = 18446744073709551616 := rfl
      omega
    rw [if_pos hw]
    refine Ev.bind (fround_Word_c neg (m := nv l) (e := e) ⟨h0, hw⟩) (Ev.same ?_)
    rw [Rd_ce h0 hbN he0 he1]
  · refine Ev.ifn h1 ?_
    have S := nat_Shr_c hl (n := un (nv l) e - e) (by unfold un; omega)
    have B := nat_Bit_c hl (i := un (nv l) e - e - 1) (by unfold un; omega)
    have T := nat_Even_c hl
    generalize nv l = N at *
    have hp : 0 < N := by
      rcases (show N = 0 ∨ 0 < N by omega) with h | h
      · rw [h, bl_zero] at h1; omega
      · exact h
    have hu : un N e = max (bl N + e - 53) (-1074) := rfl
    have eU : mx (wrap64 ((wrap64 (bl N + e)) - 53)) (-1074) = un N e := by
      rw [w64_id (n := bl N + e) (by omega) (by omega), w64_id (n := bl N + e - 53) (by omega) (by omega), hu]
      unfold mx; split <;> omega
    rw [eU]
    by_cases h2 : un N e > 971
    · refine Ev.ifp h2 (Ev.bindc (fbits_Inf_c neg) (Ev.same ?_))
      rw [Rd_over hp h2]
    · refine Ev.ifn h2 ?_
      rw [w64_id (n := un N e - e) (by omega) (by omega), w64_id (n := un N e - e - 1) (by omega) (by omega)]
      have hq := un_q (e := e) hp
      have hr := ru_units (e := e) hp
      obtain ⟨d, hd⟩ : ∃ d : Nat, un N e - e = d + 1 := ⟨(un N e - e - 1).toNat, by omega⟩
      unfold ru at hr
      rw [Rd_pos hp (by omega)]
      unfold ru
      rw [show (e - un N e).toNat = 0 by omega, Int.pow_zero, Int.mul_one, show (un N e - e).toNat = d + 1 by omega] at hq hr ⊢
      have d1 : un N e - e - 1 = (d : Int) := by omega
      have d2 : un N e - e = ((d + 1 : Nat) : Int) := by omega
      rw [d1] at B ⊢
      rw [d2] at S ⊢
      rw [Int.toNat_natCast] at S
      refine Ev.bind S ?_
      have bq : bl (N / 2 ^ (d + 1)) ≤ 53 := bl_le_of (n := 53) (Int.lt_of_lt_of_le hq.2.1 (by decide))
      have W := nat_Word_c (l := dg (N / 2 ^ (d + 1))) (Wl_dg (by omega))
      rw [nv_dg hq.1, if_pos (by omega)] at W
      refine Ev.bind W (Ev.bindc B (Ev.bind T ?_))
      refine Ev.bindc (fround_even_c hq.1 (by omega) _ _) ?_
      have hpd := pow_pos d
      have hm := mod_split N (G := 2 ^ d) (D := 2) hpd
      have e2 : (2 : Int) ^ (d + 1) = 2 ^ d * 2 := Int.pow_succ ..
      have hz : N % 2 ^ d = 0 ↔ (d : Int) ≤ tz N := tz_mod hp d
      have hlt := Int.emod_lt_of_pos N hpd
      have hge := Int.emod_nonneg N (show (2 : Int) ^ d ≠ 0 by omega)
      have key : rnd N (d + 1) = if bitI N (d : Int) = true ∧ (decide (tz N < (d : Int)) = true ∨ N / 2 ^ (d + 1) % 2 = 1) then N / 2 ^ (d + 1) + 1 else N / 2 ^ (d + 1) := by
        unfold rnd bitI
        rw [Int.toNat_natCast]
        rw [e2] at *
        rw [hm]
        have hbit : N / 2 ^ d % 2 = 0 ∨ N / 2 ^ d % 2 = 1 := by omega
        generalize N / (2 ^ d * 2) = q at *
        generalize N % 2 ^ d = r at *
        generalize tz N = t at *
        generalize (2 : Int) ^ d = G at *
        rcases hbit with hbit | hbit
        · rw [hbit, if_neg (by omega), if_neg (by simp)]
        · rw [hbit]
          by_cases hr0 : r = 0
          · have := hz.1 hr0
            by_cases ho : q % 2 = 1
            · rw [if_pos (by right; omega), if_pos (by simp [ho])]
            · rw [if_neg (by omega), if_neg (by simp [ho]; omega)]
          · have : ¬ (d : Int) ≤ t := fun k => hr0 (hz.2 k)
            rw [if_pos (by left; omega), if_pos (by simp; omega)]
      rw [← key]
      exact Ev.bind (fround_made_c neg hr.1 hr.2.1 (un_ge N e) (by omega) hr.2.2) (Ev.same rfl)
theorem fround_Of_c {l : List Int} (neg : Bool) (hl : Wl l) (hn : l.length ≤ 100) (e : Int) (more : Bool) : Ev (fun k => fround_Of.f k neg l e more) (sgn neg (if more then Rd (2 * nv l + 1) (ce e - 1) else Rd (nv l) (ce e))) := by
  have hE := ce_range e
  have eE : mn (mx e (-1099511627776)) 1099511627776 = ce e := rfl
  cases more
  · refine Ev.ifn (by decide) ?_
    rw [eE]
    exact Ev.eqr (fround_Of_j neg hl (by omega) (by omega) (by omega)) rfl
  · refine Ev.ifp rfl ?_
    rw [eE]
    have h0 := nv_nonneg hl.1
    have hb := bl_nv hl.1
    have S := nat_Shl_c hl (by omega) 1
    rw [shn_of (by omega) (by omega), show (1 : Int).toNat = 1 from rfl, Int.pow_one] at S
    refine Ev.bind S ?_
    generalize nv l = N at *
    have b1 : bl (N * 2) ≤ 6402 := by
      have := bl_mul (x := N) (y := 2) h0 (by omega)
      have : bl 2 = 2 := rfl
      omega
    have lN := dg_len_bl (N * 2)
    refine Ev.bind (nat_Of_c (x := 1) (by unfold U; omega)) ?_
    have A := nat_Add_c (a := dg (N * 2)) (b := dg 1) (Wl_dg (by omega)) (Wl_dg (by decide)) (by omega) (by decide)
    rw [nv_dg (by omega), nv_dg (by omega), show N * 2 + 1 = 2 * N + 1 by omega] at A
    refine Ev.bind A ?_
    have b2 : bl (2 * N + 1) ≤ 6500 := by
      have a1 := bl_lt (N * 2)
      have a2 := bl_nonneg (N * 2)
      have : bl (2 * N + 1) ≤ ((bl (N * 2)).toNat + 1 : Nat) := bl_le_of (by rw [Int.pow_succ]; omega)
      omega
    have l2 := dg_len_bl (2 * N + 1)
    have J := fround_Of_j neg (l := dg (2 * N + 1)) (Wl_dg (by omega)) (by omega) (e := ce e - 1) (by omega) (by omega)
    rw [nv_dg (by omega)] at J
    exact Ev.eqr J rfl
end Go.Proofs.Ytbpggonjcnakgaa.M
end
section
namespace Go.Proofs.Ytbpggonjcnakgaa.M
open Go.RowKit Go.Proofs.Ytbpggonjcnakgaa.P Go.Proofs.YtbpggonjcnakgaaW.PrintWords Go.Proofs.YtbpggonjcnakgaaW.PrintLast Go.Proofs.YtbpggonjcnakgaaW.PrintMore
set_option linter.unusedVariables false

theorem shn_nat {n : Int} (h : n ≤ 65536) : shn n = n.toNat := by
  rcases Int.lt_or_le n 0 with h0 | h0
  · unfold shn mn mx
    split <;> split <;> omega
  · exact shn_of h0 h
theorem ref10_Of_j1 {w u : Int} (neg : Bool) (h0 : 0 ≤ w) (h1 : w ≤ 9007199254740992) (hu0 : -1074 ≤ u) (hu1 : u ≤ 971) (hw : u = -1074 ∨ 4503599627370496 ≤ w) :
    Ev (fun k => gradineref10_Of.j1 k neg u w) (sgn neg ((u + 1074) * 4503599627370496 + w)) := by
  refine Ev.step (fun k => gradineref10_Of.j1.eq_2 ..) ?_
  refine Ev.bind (ref09_Make_c neg (m := w) (e := u) (by unfold U; omega)) ?_
  have hk := Mk_made (neg := neg) h0 h1 hu0 hu1 hw
  by_cases h : (Mk neg w u).2 = true
  · rw [if_pos h] at hk
    exact Ev.ifp h (Ev.same (congrArg some hk))
  · rw [if_neg h] at hk
    exact Ev.ifn h (Ev.bindc (ref09_Inf_c neg) (Ev.same (congrArg some hk)))
theorem rd_dg_zero {w : Int} (h0 : 0 < w) (h1 : w < 18446744073709551616) : dg w = [w] := by
  rw [dg_pos h0, dg_nil (by omega), Int.emod_eq_of_lt (by omega) h1]
theorem ref10_Of_j0 {w u : Int} (neg : Bool) (h0 : 0 ≤ w) (h1 : w ≤ 9007199254740992) (hu0 : -1074 ≤ u) (hu1 : u ≤ 971) (hw : u = -1074 ∨ 4503599627370496 ≤ w) :
    Ev (fun k => gradineref10_Of.j0 k neg u (dg w)) (sgn neg ((u + 1074) * 4503599627370496 + w)) := by
  refine Ev.step (fun k => gradineref10_Of.j0.eq_2 ..) ?_
  rcases (show w = 0 ∨ 0 < w by omega) with rfl | h
  · rw [dg_zero]
    exact Ev.ifn (by decide) (ref10_Of_j1 neg h0 h1 hu0 hu1 hw)
  · rw [rd_dg_zero h (by omega)]
    exact Ev.ifp (by simp) (Ev.ifp (by simp) (ref10_Of_j1 neg h0 h1 hu0 hu1 hw))
theorem cmpI_more {x y : Int} : cmpI x y > 0 ↔ y < x := by unfold cmpI; split <;> (try split) <;> omega
theorem cmpI_same {x y : Int} : cmpI x y = 0 ↔ x = y := by unfold cmpI; split <;> (try split) <;> omega
theorem ref10_Of_c {l : List Int} (neg : Bool) (hl : Wl l) (hn : l.length ≤ 900) {e : Int} (he0 : -2000000000000 ≤ e) (he1 : e ≤ 2000000000000) : Ev (fun k => gradineref10_Of.f k neg l e) (sgn neg (Rd (nv l) e)) := by
  have h0 := nv_nonneg hl.1
  have hb := bl_nv hl.1
  refine Ev.bind (ref02_Trim_c hl) ?_
  generalize nv l = N at *
  have hb0 := bl_nonneg N
  have hbN : bl N ≤ 57600 := by omega
  clear hb
  have wN : Wl (dg N) := Wl_dg (by omega)
  have lN := dg_len_bl N
  by_cases hz : N = 0
  · rw [hz]
    refine Ev.ifp rfl (Ev.bindc (ref09_Signed_c neg (by omega) (by omega)) (Ev.same ?_))
    rw [Rd_zero]
  · have hp : 0 < N := by omega
    have b1 := bl_pos hp
    refine Ev.ifn (fun k => hz ((dg_len_zero h0).1 (by omega))) ?_
    have BN := ref02_Bits_c wN
    rw [nv_dg h0] at BN
    refine Ev.bind BN ?_
    have hu : un N e = max (bl N + e - 53) (-1074) := rfl
    by_cases h1 : e > 2000
    · refine Ev.ifp h1 (Ev.bindc (ref09_Inf_c neg) (Ev.same ?_))
      rw [Rd_inf hp (by omega)]
    · refine Ev.ifn h1 ?_
      rw [w64_id (n := -1200 - bl N) (by omega) (by omega)]
      by_cases h2 : e < -1200 - bl N
      · refine Ev.ifp h2 (Ev.bindc (ref09_Signed_c neg (by omega) (by omega)) (Ev.same ?_))
        rw [Rd_none h0 (by omega)]
      · refine Ev.ifn h2 ?_
        rw [un_text2 (by omega) (by omega) (by omega)]
        by_cases h3 : un N e > 971
        · refine Ev.ifp h3 (Ev.bindc (ref09_Inf_c neg) (Ev.same ?_))
          rw [Rd_over hp h3]
        · refine Ev.ifn h3 ?_
          have hr := ru_units (e := e) hp
          have hq := un_q (e := e) hp
          have hu1 := un_ge N e
          rw [Rd_pos hp (by omega)]
          have S1 := ref02_Shl_c wN (by omega) (e - un N e)
          rw [nv_dg h0, shn_nat (by omega)] at S1
          rw [w64_id (n := e - un N e) (by omega) (by omega)]
          refine Ev.bind S1 ?_
          by_cases h4 : e < un N e
          · refine Ev.ifp h4 ?_
            rw [w64_id (n := un N e - e) (by omega) (by omega)]
            obtain ⟨d, hd⟩ : ∃ d : Nat, un N e - e = d := ⟨(un N e - e).toNat, by omega⟩
            have hdd : d ≤ 58000 := by omega
            have e0 : ru N e (un N e) = rnd N d := by
              unfold ru
              rw [show (e - un N e).toNat = 0 by omega, Int.pow_zero, Int.mul_one, hd, Int.toNat_natCast]
            rw [show (e - un N e).toNat = 0 by omega, Int.pow_zero, Int.mul_one, hd, Int.toNat_natCast] at hq
            rw [e0] at hr ⊢
            rw [hd]
            have R1 := ref02_Shr_c wN (n := (d : Int)) (by omega)
            rw [nv_dg h0, Int.toNat_natCast] at R1
            refine Ev.bind R1 ?_
            have hdm := Int.mul_ediv_add_emod N (2 ^ d)
            have hm0 := Int.emod_nonneg N (show (2 : Int) ^ d ≠ 0 by have := pow_pos d; omega)
            have hm1 := Int.emod_lt_of_pos N (pow_pos d)
            have hle : N / 2 ^ d ≤ N := Int.ediv_le_self _ h0
            have bq := bl_mono hle
            have wq : Wl (dg (N / 2 ^ d)) := Wl_dg (by omega)
            have lq := dg_len_bl (N / 2 ^ d)
            have S2 := ref02_Shl_c wq (by omega) (d : Int)
            rw [nv_dg hq.1, shn_nat (by omega), Int.toNat_natCast] at S2
            refine Ev.bind S2 ?_
            rw [Int.mul_comm] at hdm
            have hp0 : 0 ≤ N / 2 ^ d * 2 ^ d := Int.mul_nonneg hq.1 (by have := pow_pos d; omega)
            have bp := bl_mono (show N / 2 ^ d * 2 ^ d ≤ N by omega)
            have lp := dg_len_bl (N / 2 ^ d * 2 ^ d)
            have D := ref02_Sub_c wN (b := dg (N / 2 ^ d * 2 ^ d)) (Wl_dg (by omega)) (by omega) (by omega) (by rw [nv_dg h0, nv_dg hp0]; omega)
            rw [nv_dg h0, nv_dg hp0, show N - N / 2 ^ d * 2 ^ d = N % 2 ^ d by omega] at D
            refine Ev.bind D ?_
            have br := bl_mono (show N % 2 ^ d ≤ N by omega)
            have wr : Wl (dg (N % 2 ^ d)) := Wl_dg (by omega)
            have lr := dg_len_bl (N % 2 ^ d)
            have S3 := ref02_Shl_c wr (by omega) 1
            rw [nv_dg hm0, shn_nat (by omega), show (1 : Int).toNat = 1 from rfl, Int.pow_one] at S3
            refine Ev.bind S3 ?_
            have w1 : Wl [1] := ⟨Ws_one (by unfold U; omega), by decide⟩
            have S4 := ref02_Shl_c w1 (by decide) (d : Int)
            rw [nv_one, shn_nat (by omega), Int.toNat_natCast, Int.one_mul] at S4
            refine Ev.bind S4 ?_
            have bd : bl ((2 : Int) ^ d) ≤ d + 1 := bl_le_of (n := d + 1) (by rw [Int.pow_succ]; have := pow_pos d; omega)
            have br2 := bl_mono (show N % 2 ^ d * 2 ≤ 2 ^ (d + 1) by rw [Int.pow_succ]; omega)
            have bd2 : bl ((2 : Int) ^ (d + 1)) ≤ d + 2 := bl_le_of (n := d + 2) (by rw [Int.pow_succ, Int.pow_succ]; have := pow_pos d; omega)
            have C := ref02_Cmp_c (a := dg (N % 2 ^ d * 2)) (b := dg (2 ^ d)) (Wl_dg (by omega)) (Wl_dg (by omega))
            rw [nv_dg (by omega), nv_dg (by have := pow_pos d; omega)] at C
            refine Ev.bind C ?_
            have A := ref02_Add_c wq w1 (by omega) (by decide)
            rw [nv_dg hq.1, nv_one] at A
            clear S1 R1 S2 S3 S4 D C BN
            by_cases h5 : cmpI (N % 2 ^ d * 2) (2 ^ d) > 0
            · refine Ev.ifp h5 (Ev.bind A ?_)
              have e1 : rnd N d = N / 2 ^ d + 1 := by
                unfold rnd
                rw [if_pos (.inl (by have := cmpI_more.1 h5; omega))]
              rw [e1] at hr ⊢
              exact ref10_Of_j0 neg (by omega) hr.2.1 hu1 (by omega) hr.2.2
            · refine Ev.ifn h5 ?_
              by_cases h6 : cmpI (N % 2 ^ d * 2) (2 ^ d) = 0
              · refine Ev.ifp h6 (Ev.bindc (ref02_Bit_c wq (by omega)) ?_)
                rw [nv_dg hq.1]
                have h7 := cmpI_same.1 h6
                by_cases h8 : N / 2 ^ d % 2 = 1
                · refine Ev.ifp (by unfold bitI; simp [h8]) (Ev.bind A ?_)
                  have e1 : rnd N d = N / 2 ^ d + 1 := by
                    unfold rnd
                    rw [if_pos (.inr ⟨by omega, h8⟩)]
                  rw [e1] at hr ⊢
                  exact ref10_Of_j0 neg (by omega) hr.2.1 hu1 (by omega) hr.2.2
                · refine Ev.ifn (by unfold bitI; simp [h8]) ?_
                  have e1 : rnd N d = N / 2 ^ d := by
                    unfold rnd
                    rw [if_neg (by omega)]
                  rw [e1] at hr ⊢
                  exact ref10_Of_j0 neg (by omega) hr.2.1 hu1 (by omega) hr.2.2
              · refine Ev.ifn h6 ?_
                have e1 : rnd N d = N / 2 ^ d := by
                  unfold rnd
                  rw [if_neg ?_]
                  intro k
                  rcases k with k | k
                  · exact h5 (cmpI_more.2 (by omega))
                  · exact h6 (cmpI_same.2 (by omega))
                rw [e1] at hr ⊢
                exact ref10_Of_j0 neg (by omega) hr.2.1 hu1 (by omega) hr.2.2
          · refine Ev.ifn h4 ?_
            have e0 : ru N e (un N e) = N * 2 ^ (e - un N e).toNat := by
              unfold ru
              rw [show (un N e - e).toNat = 0 by omega, rnd_zero]
            rw [e0] at hr ⊢
            exact ref10_Of_j0 neg hr.1 hr.2.1 hu1 (by omega) hr.2.2
theorem ref10_Half_c {l : List Int} (hl : Wl l) (hn : l.length ≤ 900) : Ev (fun k => gradineref10_Half.f k l) (dg (2 * nv l + 1)) := by
  have h0 := nv_nonneg hl.1
  have hb := bl_nv hl.1
  have S := ref02_Shl_c hl (by omega) 1
  rw [shn_nat (by omega), show (1 : Int).toNat = 1 from rfl, Int.pow_one] at S
  refine Ev.bind S ?_
  generalize nv l = N at *
  have b1 : bl (N * 2) ≤ 58000 := by
    have := bl_mul (x := N) (y := 2) h0 (by omega)
    have : bl 2 = 2 := rfl
    omega
  have lN := dg_len_bl (N * 2)
  have A := ref02_Add_c (a := dg (N * 2)) (b := [1]) (Wl_dg (by omega)) ⟨Ws_one (by unfold U; omega), by decide⟩ (by omega) (by decide)
  rw [nv_dg (by omega), nv_one, show N * 2 + 1 = 2 * N + 1 by omega] at A
  exact Ev.bind A (Ev.same rfl)
theorem ref10_More_c {l : List Int} (neg : Bool) (hl : Wl l) (hn : l.length ≤ 100) (e : Int) (more : Bool) : Ev (fun k => gradineref10_More.f k neg l e more) (sgn neg (if more then Rd (2 * nv l + 1) (ce e - 1) else Rd (nv l) (ce e))) := by
  have hE := ce_range e
  have eE : mn (mx e (-1099511627776)) 1099511627776 = ce e := rfl
  cases more
  · refine Ev.ifn (by decide) ?_
    rw [eE]
    exact Ev.bind (ref10_Of_c neg hl (by omega) (by omega) (by omega)) (Ev.same rfl)
  · refine Ev.ifp rfl (Ev.bind (ref10_Half_c hl (by omega)) ?_)
    rw [eE]
    have h0 := nv_nonneg hl.1
    have hb := bl_nv hl.1
    have b1 : bl (2 * nv l + 1) ≤ 6500 := by
      have a1 := bl_lt (nv l)
      have b0 := bl_nonneg (nv l)
      have := bl_le_of (x := 2 * nv l + 1) (n := (bl (nv l)).toNat + 1) (by rw [Int.pow_succ]; omega)
      omega
    have lN := dg_len_bl (2 * nv l + 1)
    have := ref10_Of_c neg (l := dg (2 * nv l + 1)) (Wl_dg (by omega)) (by omega) (e := ce e - 1) (by omega) (by omega)
    rw [nv_dg (by omega)] at this
    exact Ev.bind this (Ev.same rfl)
end Go.Proofs.Ytbpggonjcnakgaa.M
end
section
namespace Go.Proofs.Ytbpggonjcnakgaa.M
open Go.RowKit Go.Proofs.Ytbpggonjcnakgaa.P Go.Proofs.YtbpggonjcnakgaaW.PrintWords Go.Proofs.YtbpggonjcnakgaaW.PrintLast Go.Proofs.YtbpggonjcnakgaaW.PrintMore
set_option linter.unusedVariables false

theorem law10_same_c : Ev (fun k => gradinelaw10_same.f k) true := by
  have h1 := fround_Word_c (m := 9007199254740993) (e := 0) false (by unfold U; omega)
  rw [show sgn false (Rd 9007199254740993 (ce 0)) = 4845873199050653696 by decide] at h1
  have h2 := fround_Word_c (m := 9007199254740995) (e := 0) false (by unfold U; omega)
  rw [show sgn false (Rd 9007199254740995 (ce 0)) = 4845873199050653698 by decide] at h2
  have h3 := fround_FromInt_c (n := -1) (by omega) (by omega)
  rw [show sgn (decide ((-1 : Int) < 0)) (Rd (if (-1 : Int) < 0 then - (-1) else -1) 0) = 13830554455654793216 by decide] at h3
  refine Ev.bind h1 (Ev.ifp rfl (Ev.bind h2 (Ev.ifp rfl (Ev.bind h3 (Ev.same rfl)))))
end Go.Proofs.Ytbpggonjcnakgaa.M
end
