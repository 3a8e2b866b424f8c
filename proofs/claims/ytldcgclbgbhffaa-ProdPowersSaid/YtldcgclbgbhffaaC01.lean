/- What the functions of limb, and of its reference, answer: sums, differences, products of words. -/
import Derived.Test.YtldcgclbgbhffaaM1
import Derived.Test.YtldcgclbgbhffaaBlimb
import Derived.Test.YtldcgclbgbhffaaBgradineref01
namespace Go.Proofs.Ytldcgclbgbhffaa.M
open Go.RowKit Go.Proofs.Ytldcgclbgbhffaa.P Go.Proofs.YtldcgclbgbhffaaW.PrintWords Go.Proofs.YtldcgclbgbhffaaW.PrintLast Go.Proofs.YtldcgclbgbhffaaW.PrintMore
set_option linter.unusedVariables false

theorem limb_Add_c {a b c : Int} (ha : U a) (hb : U b) (hc : U c) : limb_Add.f a b c = some ((a + b + c) % 18446744073709551616, (a + b + c) / 18446744073709551616) := by
  unfold U at ha hb hc
  unfold limb_Add.f
  simp only [wu]
  split <;> split <;> (simp only [Option.some.injEq, Prod.mk.injEq]; omega)
theorem limb_Sub_c {a b c : Int} (ha : U a) (hb : U b) (hc : U c) : limb_Sub.f a b c = some ((a - b - c) % 18446744073709551616, -((a - b - c) / 18446744073709551616)) := by
  unfold U at ha hb hc
  unfold limb_Sub.f
  simp only [wu]
  split <;> split <;> (simp only [Option.some.injEq, Prod.mk.injEq]; omega)
theorem ref01_Add_c {a b c : Int} (ha : U a) (hb : U b) (hc : U c) : gradineref01_Add.f a b c = some ((a + b + c) % 18446744073709551616, (a + b + c) / 18446744073709551616) := by
  unfold U at ha hb hc
  unfold gradineref01_Add.f
  rw [and32 a (by omega) (by omega), and32 b (by omega) (by omega), and32 c (by omega) (by omega)]
  simp only [wu]
  rw [and32 _ (by omega) (by omega), or_join 32 _ _ (by omega) (by omega) (by omega) (by omega) (by omega) (by omega)]
  simp only [Option.some.injEq, Prod.mk.injEq]
  omega
theorem ref01_Sub_c {a b c : Int} (ha : U a) (hb : U b) (hc : U c) : gradineref01_Sub.f a b c = some ((a - b - c) % 18446744073709551616, -((a - b - c) / 18446744073709551616)) := by
  unfold U at ha hb hc
  unfold gradineref01_Sub.f
  simp only [wu]
  split <;> split <;> (simp only [Option.some.injEq, Prod.mk.injEq]; omega)

theorem mul_halves (a b : Int) : a * b = (a / 4294967296) * (b / 4294967296) * 18446744073709551616 + ((a % 4294967296) * (b / 4294967296) + (a / 4294967296) * (b % 4294967296)) * 4294967296 + (a % 4294967296) * (b % 4294967296) := by
  have h1 := Int.mul_ediv_add_emod a 4294967296
  have h2 := Int.mul_ediv_add_emod b 4294967296
  generalize a / 4294967296 = a1 at *
  generalize b / 4294967296 = b1 at *
  generalize a % 4294967296 = a0 at *
  generalize b % 4294967296 = b0 at *
  subst h1 h2
  grind
theorem mul_bound {x y m n : Int} (hx0 : 0 ≤ x) (hx : x ≤ m) (hy0 : 0 ≤ y) (hy : y ≤ n) : 0 ≤ x * y ∧ x * y ≤ m * n :=
  ⟨Int.mul_nonneg hx0 hy0, Int.mul_le_mul hx hy hy0 (by omega)⟩
theorem limb_Mul_c {a b : Int} (ha : U a) (hb : U b) : limb_Mul.f a b = some (a * b / 18446744073709551616, a * b % 18446744073709551616) := by
  unfold U at ha hb
  unfold limb_Mul.f
  have e := mul_halves a b
  have k1 := mul_bound (x := a % 4294967296) (y := b % 4294967296) (m := 4294967295) (n := 4294967295) (by omega) (by omega) (by omega) (by omega)
  have k2 := mul_bound (x := a % 4294967296) (y := b / 4294967296) (m := 4294967295) (n := 4294967295) (by omega) (by omega) (by omega) (by omega)
  have k3 := mul_bound (x := a / 4294967296) (y := b % 4294967296) (m := 4294967295) (n := 4294967295) (by omega) (by omega) (by omega) (by omega)
  have k4 := mul_bound (x := a / 4294967296) (y := b / 4294967296) (m := 4294967295) (n := 4294967295) (by omega) (by omega) (by omega) (by omega)
  rw [and32 a (by omega) (by omega), and32 b (by omega) (by omega)]
  generalize a % 4294967296 * (b % 4294967296) = p at *
  generalize a % 4294967296 * (b / 4294967296) = q at *
  generalize a / 4294967296 * (b % 4294967296) = r at *
  generalize a / 4294967296 * (b / 4294967296) = t at *
  rw [e]
  clear e ha hb
  simp only [Int.reduceMul] at *
  simp only [wu]
  rw [and32 _ (by omega) (by omega), and32 _ (by omega) (by omega), or_join 32 _ _ (by omega) (by omega) (by omega) (by omega) (by omega) (by omega)]
  simp only [Option.some.injEq, Prod.mk.injEq]
  omega

/-! ### How many bits -/
theorem len_base (k : Nat) (x n : Int) (h0 : 0 ≤ x) (h1 : x < 2) (hn0 : 0 ≤ n) (hn1 : n ≤ 63) : limb_Len.l0 (k + 1) x n 0 = some (n + bl x) := by
  simp only [limb_Len.l0]
  rw [if_neg (by omega), w64_id (n := x) (by omega) (by omega), w64_id (by omega) (by omega)]
  rcases (show x = 0 ∨ x = 1 by omega) with rfl | rfl
  · rfl
  · have : bl 1 = 1 := rfl
    rw [this]
theorem len_step (k s s' : Nat) (hs : 0 < s) (hs2 : s ≤ 32) (hs' : s' = s / 2)
    (H : ∀ x n : Int, 0 ≤ x → x < 2 ^ s → 0 ≤ n → n ≤ 64 - s → limb_Len.l0 k x n s' = some (n + bl x))
    (x n : Int) (h0 : 0 ≤ x) (h1 : x < 2 ^ (2 * s)) (hn0 : 0 ≤ n) (hn1 : n ≤ 64 - 2 * s) : limb_Len.l0 (k + 1) x n s = some (n + bl x) := by
  have hp := pow_pos s
  have hd : ((s : Nat) : Int) / 2 = ((s' : Nat) : Int) := by omega
  simp only [limb_Len.l0]
  rw [if_pos (by omega), if_pos (by omega), shr_u _ _ (by omega), Int.toNat_natCast, hd]
  by_cases hq : x / 2 ^ s > 0
  · have hle : 2 ^ s ≤ x := by
      rcases Int.lt_or_le x (2 ^ s) with h | h
      · rw [Int.ediv_eq_zero_of_lt h0 h] at hq; omega
      · exact h
    rw [if_pos hq, w64_id (by omega) (by omega), H _ _ (by omega) ?_ (by omega) (by omega), bl_shr hle]
    · congr 1; omega
    · rw [Int.ediv_lt_iff_lt_mul hp, ← Int.pow_add]
      rwa [show s + s = 2 * s by omega]
  · have hlt : x < 2 ^ s := by
      rcases Int.lt_or_le x (2 ^ s) with h | h
      · exact h
      · have : 1 ≤ x / 2 ^ s := by rw [Int.le_ediv_iff_mul_le hp]; omega
        omega
    rw [if_neg hq, H _ _ h0 hlt hn0 (by omega)]
theorem limb_Len_c {x : Int} (h : U x) : Ev (fun k => limb_Len.f k x) (bl x) := by
  refine ⟨7, fun k hk => ?_⟩
  obtain ⟨k, rfl⟩ : ∃ m, k = m + 1 + 1 + 1 + 1 + 1 + 1 + 1 := ⟨k - 7, by omega⟩
  have s0 : ∀ x n : Int, 0 ≤ x → x < 2 ^ 1 → 0 ≤ n → n ≤ 64 - ((1 : Nat) : Int) → limb_Len.l0 (k + 1) x n ((0 : Nat) : Int) = some (n + bl x) := fun x n a b c d => len_base k x n a (by omega) c (by omega)
  have s1 := len_step (k + 1) 1 0 (by omega) (by omega) rfl s0
  have s2 := len_step (k + 1 + 1) 2 1 (by omega) (by omega) rfl (fun x n a b c d => s1 x n a b c (by omega))
  have s3 := len_step (k + 1 + 1 + 1) 4 2 (by omega) (by omega) rfl (fun x n a b c d => s2 x n a b c (by omega))
  have s4 := len_step (k + 1 + 1 + 1 + 1) 8 4 (by omega) (by omega) rfl (fun x n a b c d => s3 x n a b c (by omega))
  have s5 := len_step (k + 1 + 1 + 1 + 1 + 1) 16 8 (by omega) (by omega) rfl (fun x n a b c d => s4 x n a b c (by omega))
  have s6 := len_step (k + 1 + 1 + 1 + 1 + 1 + 1) 32 16 (by omega) (by omega) rfl (fun x n a b c d => s5 x n a b c (by omega))
  have := s6 x 0 h.1 h.2 (by omega) (by omega)
  unfold limb_Len.f
  exact this.trans (by congr 1; omega)
theorem ref01_Len_l (m : Nat) : ∀ x n : Int, 0 ≤ x → x.toNat ≤ m → bl x ≤ 64 → 0 ≤ n → n + bl x ≤ 1000 → Ev (fun k => gradineref01_Len.l0 k x n) (n + bl x) := by
  induction m with
  | zero =>
    intro x n h0 h1 hb hn hn1
    obtain rfl : x = 0 := by omega
    refine Ev.step (fun k => gradineref01_Len.l0.eq_2 ..) ?_
    refine Ev.ifn (by omega) ?_
    exact Ev.same (by rw [bl_zero]; congr 1; omega)
  | succ m ih =>
    intro x n h0 h1 hb hn hn1
    refine Ev.step (fun k => gradineref01_Len.l0.eq_2 ..) ?_
    by_cases hx : x > 0
    · refine Ev.ifp hx ?_
      have e : bl x = bl (x / 2) + 1 ∨ (x = 1 ∧ bl x = 1) := by
        rcases (show x = 1 ∨ 2 ≤ x by omega) with h | h
        · exact .inr ⟨h, by rw [h]; rfl⟩
        · exact .inl (bl_shr (s := 1) (by omega))
      have e2 : bl x = bl (x / 2) + 1 := by
        rcases e with e | ⟨rfl, e⟩
        · exact e
        · rfl
      have hn2 := bl_nonneg (x / 2)
      rw [w64_id (by omega) (by omega)]
      refine (ih (x / 2) (n + 1) (by omega) (by omega) (by omega) (by omega) (by omega)).eqr (by omega)
    · refine Ev.ifn hx ?_
      obtain rfl : x = 0 := by omega
      exact Ev.same (by rw [bl_zero]; congr 1; omega)
theorem ref01_Len_c {x : Int} (h : U x) : Ev (fun k => gradineref01_Len.f k x) (bl x) := by
  have hb := bl_64 h.2
  have := ref01_Len_l x.toNat x 0 h.1 (Nat.le_refl _) hb (by omega) (by omega)
  exact this.eqr (by omega)

/-! ### Quotients -/
/-- What a digit of half a word needs: a divisor with its highest bit. -/
theorem digit_loop (rest next d d0 d1 : Int) (hd : d = d1 * 4294967296 + d0) (hd1 : 2147483648 ≤ d1) (hd1' : d1 < 4294967296) (hd0 : 0 ≤ d0) (hd0' : d0 < 4294967296) (hr0 : 0 ≤ rest) (hr1 : rest < d) (hn0 : 0 ≤ next) (hn1 : next < 4294967296) (m : Nat) :
    ∀ q r : Int, q.toNat < m → q * d1 + r = rest → 0 ≤ r → r < 4294967296 → q ≤ 4294967297 → (rest * 4294967296 + next) / d ≤ q →
      Ev (fun k => limb_digit.l0 k rest next d d0 d1 q r) ((rest * 4294967296 + next) / d, (rest * 4294967296 + next) % d) := by
  have hdp : 0 < d := by omega
  have hN0 : 0 ≤ (rest * 4294967296 + next) / d := Int.ediv_nonneg (by omega) (by omega)
  have hNlt : (rest * 4294967296 + next) / d < 4294967296 := by rw [Int.ediv_lt_iff_lt_mul hdp]; omega
  have hmod := Int.emod_nonneg (rest * 4294967296 + next) (show d ≠ 0 by omega)
  have hmod2 := Int.emod_lt_of_pos (rest * 4294967296 + next) hdp
  have hdm := Int.mul_ediv_add_emod (rest * 4294967296 + next) d
  -- the answer at the digit itself
  have fin : ∀ q : Int, q = (rest * 4294967296 + next) / d → IntKind.u64.wrap ((IntKind.u64.wrap ((IntKind.u64.wrap (rest * 4294967296)) + next)) - (IntKind.u64.wrap (q * d))) = (rest * 4294967296 + next) % d := by
    intro q hq
    subst hq
    generalize (rest * 4294967296 + next) / d = q at *
    generalize (rest * 4294967296 + next) % d = r at *
    have e : q * d = d * q := Int.mul_comm _ _
    rw [e]
    generalize d * q = p at *
    simp only [wu]
    omega
  induction m with
  | zero => intro q r hm; omega
  | succ m ih =>
    intro q r hm hq h0 h1 h2 h3
    have hqn : 0 ≤ q := by omega
    have hp := mul_bound (x := q) (y := d0) (m := 4294967297) (n := 4294967295) hqn h2 hd0 (by omega)
    have hp1 : (q - 1) * d0 = q * d0 - d0 := by rw [Int.sub_mul, Int.one_mul]
    have hs1 : (q - 1) * d1 = q * d1 - d1 := by rw [Int.sub_mul, Int.one_mul]
    have hqd : q * d = q * d1 * 4294967296 + q * d0 := by rw [hd, Int.mul_add, ← Int.mul_assoc]
    have hqd1 : (q - 1) * d = q * d - d := by rw [Int.sub_mul, Int.one_mul]
    -- one more round: the digit was too great
    have more : (rest * 4294967296 + next) / d < q → Ev (fun k => limb_digit.j1 k rest next d d0 d1 q r true) ((rest * 4294967296 + next) / d, (rest * 4294967296 + next) % d) := by
      intro hlt
      refine Ev.step (fun k => limb_digit.j1.eq_2 ..) ?_
      refine Ev.ifp rfl ?_
      have w1 : IntKind.u64.wrap (r + d1) = r + d1 := wu_id (by omega) (by omega)
      have w2 : IntKind.u64.wrap (q - 1) = q - 1 := wu_id (by omega) (by omega)
      rw [w1, w2]
      by_cases hb : r + d1 > 4294967295
      · refine Ev.ifp hb ?_
        have hle : q - 1 ≤ (rest * 4294967296 + next) / d := by
          rw [Int.le_ediv_iff_mul_le hdp, hqd1, hqd]
          have hp2 := mul_bound (x := q - 1) (y := d0) (m := 4294967296) (n := 4294967295) (by omega) (by omega) hd0 (by omega)
          generalize (q - 1) * d0 = p1 at *
          generalize q * d0 = p at *
          generalize q * d1 = s at *
          omega
        have he : q - 1 = (rest * 4294967296 + next) / d := by omega
        exact Ev.same (by rw [fin _ he, he])
      · refine Ev.ifn hb ?_
        exact ih (q - 1) (r + d1) (by omega) (by rw [hs1]; omega) (by omega) (by omega) (by omega) (by omega)
    refine Ev.step (fun k => limb_digit.l0.eq_2 ..) ?_
    by_cases hq1 : q > 4294967295
    · exact Ev.ifp hq1 (more (by omega))
    · refine Ev.ifn hq1 ?_
      have w1 : IntKind.u64.wrap (q * d0) = q * d0 := by
        have hp3 := mul_bound (x := q) (y := d0) (m := 4294967295) (n := 4294967295) hqn (by omega) hd0 (by omega)
        exact wu_id (by omega) (by omega)
      have w2 : Go.bits .or .u64 (IntKind.u64.wrap (r * 4294967296)) next = r * 4294967296 + next := by
        rw [wu_id (by omega) (by omega)]
        exact or_join 32 _ _ (by omega) (by omega) (by omega) (by omega) (by omega) (by omega)
      rw [w1, w2]
      by_cases hc : q * d0 > r * 4294967296 + next
      · rw [decide_eq_true hc]
        refine more ?_
        rw [Int.ediv_lt_iff_lt_mul hdp, hqd]
        generalize q * d0 = p at *
        generalize q * d1 = s at *
        omega
      · rw [decide_eq_false hc]
        have hle : q ≤ (rest * 4294967296 + next) / d := by
          rw [Int.le_ediv_iff_mul_le hdp, hqd]
          generalize q * d0 = p at *
          generalize q * d1 = s at *
          omega
        have he : q = (rest * 4294967296 + next) / d := by omega
        refine Ev.step (fun k => limb_digit.j1.eq_2 ..) ?_
        refine Ev.ifn (by decide) ?_
        exact Ev.same (by rw [fin _ he, he])
theorem limb_digit_c {rest next d : Int} (hd : 9223372036854775808 ≤ d) (hd' : d < 18446744073709551616) (hr0 : 0 ≤ rest) (hr1 : rest < d) (hn0 : 0 ≤ next) (hn1 : next < 4294967296) :
    Ev (fun k => limb_digit.f k rest next d) ((rest * 4294967296 + next) / d, (rest * 4294967296 + next) % d) := by
  have e1 := Int.mul_ediv_add_emod d 4294967296
  have h1 : 2147483648 ≤ d / 4294967296 := by omega
  have h2 : d / 4294967296 < 4294967296 := by omega
  refine Ev.ifn (by omega) ?_
  rw [and32 d (by omega) hd']
  have hq0 := Int.ediv_nonneg hr0 (show 0 ≤ d / 4294967296 by omega)
  have m0 := Int.emod_nonneg rest (show d / 4294967296 ≠ 0 by omega)
  have m1 := Int.emod_lt_of_pos rest (show 0 < d / 4294967296 by omega)
  have md := Int.mul_ediv_add_emod rest (d / 4294967296)
  rw [Int.tdiv_eq_ediv_of_nonneg hr0, Int.tmod_eq_emod_of_nonneg hr0]
  have hqle : rest / (d / 4294967296) ≤ 4294967297 := by
    have : rest / (d / 4294967296) < 4294967298 := by rw [Int.ediv_lt_iff_lt_mul (by omega)]; omega
    omega
  rw [wu_id hq0 (by omega)]
  refine digit_loop rest next d (d % 4294967296) (d / 4294967296) (by omega) h1 h2 (by omega) (by omega) hr0 hr1 hn0 hn1 ((rest / (d / 4294967296)).toNat + 1) _ _ (by omega) (by rw [Int.mul_comm]; omega) m0 (by omega) hqle ?_
  have hlt : (rest * 4294967296 + next) / d < rest / (d / 4294967296) + 1 := by
    rw [Int.ediv_lt_iff_lt_mul (by omega)]
    have e2 : (rest / (d / 4294967296) + 1) * d = (d / 4294967296 * (rest / (d / 4294967296)) + d / 4294967296) * 4294967296 + (rest / (d / 4294967296) + 1) * (d % 4294967296) := by
      generalize rest / (d / 4294967296) = q at *
      generalize d / 4294967296 = d1 at *
      generalize d % 4294967296 = d0 at *
      subst e1
      grind
    have e3 : 0 ≤ (rest / (d / 4294967296) + 1) * (d % 4294967296) := Int.mul_nonneg (by omega) (by omega)
    rw [e2]
    generalize (rest / (d / 4294967296) + 1) * (d % 4294967296) = z at *
    generalize d / 4294967296 * (rest / (d / 4294967296)) = y at *
    omega
  omega

theorem bl_top {d : Int} (h0 : 0 < d) (h1 : d < 18446744073709551616) : 9223372036854775808 ≤ d * 2 ^ (64 - bl d).toNat ∧ d * 2 ^ (64 - bl d).toNat < 18446744073709551616 := by
  have a1 := bl_lt d
  have a2 := bl_le h0
  have a3 := bl_64 h1
  have a4 := bl_pos h0
  obtain ⟨n, hn⟩ : ∃ n : Nat, bl d = n + 1 := ⟨(bl d - 1).toNat, by omega⟩
  rw [hn] at a1 a2 a3 ⊢
  have e1 : ((n : Int) + 1).toNat = n + 1 := by omega
  have e2 : ((n : Int) + 1 - 1).toNat = n := by omega
  have e3 : (64 - ((n : Int) + 1)).toNat = 63 - n := by omega
  rw [e1] at a1
  rw [e2] at a2
  rw [e3]
  have hp := pow_pos (63 - n)
  have b1 := Int.mul_le_mul_of_nonneg_right a2 (Int.le_of_lt hp)
  have b2 := Int.mul_lt_mul_of_pos_right a1 hp
  rw [← Int.pow_add, show n + (63 - n) = 63 by omega] at b1
  rw [← Int.pow_add, show n + 1 + (63 - n) = 64 by omega] at b2
  omega
theorem limb_Div_no {hi lo d : Int} (h : hi ≥ d) : Ev (fun k => limb_Div.f k hi lo d) (0, 0, false) := Ev.ifp h (Ev.same rfl)
theorem limb_Div_c {hi lo d : Int} (hhi : 0 ≤ hi) (hlt : hi < d) (hd : d < 18446744073709551616) (hlo : U lo) :
    Ev (fun k => limb_Div.f k hi lo d) ((hi * 18446744073709551616 + lo) / d, (hi * 18446744073709551616 + lo) % d, true) := by
  obtain ⟨hlo0, hlo1⟩ := hlo
  refine Ev.ifn (by omega) ?_
  refine Ev.bind (limb_Len_c ⟨by omega, hd⟩) ?_
  have b1 := bl_pos (x := d) (by omega)
  have b2 := bl_64 hd
  have b3 := bl_top (d := d) (by omega) hd
  have e64 : wrap64 (64 - bl d) = 64 - bl d := w64_id (by omega) (by omega)
  have e63 : wrap64 (63 - (64 - bl d)) = bl d - 1 := by rw [w64_id (by omega) (by omega)]; omega
  rw [e64, e63]
  refine Ev.ifp (by omega) (Ev.ifp (by omega) ?_)
  obtain ⟨s, hs⟩ : ∃ s : Nat, 64 - bl d = s := ⟨(64 - bl d).toNat, by omega⟩
  have hs63 : s ≤ 63 := by omega
  have hs1 : bl d - 1 = ((63 - s : Nat) : Int) := by omega
  rw [hs] at b3 ⊢
  rw [hs1]
  rw [Int.toNat_natCast] at b3
  have hp := pow_pos s
  have hp2 := pow_pos (64 - s)
  have hpp : (2 : Int) ^ s * 2 ^ (64 - s) = 18446744073709551616 := by rw [← Int.pow_add, show s + (64 - s) = 64 by omega]; rfl
  -- the divisor, moved up
  rw [shl_u d _ (by omega), shl_u hi _ (by omega), shl_u lo _ (by omega), shr_u _ _ (by omega), Int.toNat_natCast, Int.toNat_natCast]
  have hdm : d * 2 ^ s % 18446744073709551616 = d * 2 ^ s := Int.emod_eq_of_lt (by omega) b3.2
  have hh0 : 0 ≤ hi * 2 ^ s := Int.mul_nonneg hhi (by omega)
  have hh1 : hi * 2 ^ s + 2 ^ s ≤ d * 2 ^ s := by
    have := Int.mul_le_mul_of_nonneg_right (show hi + 1 ≤ d by omega) (Int.le_of_lt hp)
    rw [Int.add_mul, Int.one_mul] at this
    exact this
  have hhm : hi * 2 ^ s % 18446744073709551616 = hi * 2 ^ s := Int.emod_eq_of_lt hh0 (by omega)
  -- the lower word, moved up: its two parts
  have hl2 : lo / 2 / 2 ^ (63 - s) = lo / 2 ^ (64 - s) := by
    rw [Int.ediv_ediv_of_nonneg (by omega), show (64 - s) = (63 - s) + 1 by omega, Int.pow_succ, Int.mul_comm]
  have hl3 : 0 ≤ lo / 2 ^ (64 - s) := Int.ediv_nonneg hlo0 (by omega)
  have hl4 : lo / 2 ^ (64 - s) < 2 ^ s := by rw [Int.ediv_lt_iff_lt_mul hp2, hpp]; exact hlo1
  have hl5 : lo * 2 ^ s = lo / 2 ^ (64 - s) * 18446744073709551616 + lo % 2 ^ (64 - s) * 2 ^ s := by
    have h := Int.mul_ediv_add_emod lo (2 ^ (64 - s))
    generalize lo / 2 ^ (64 - s) = q at *
    generalize lo % 2 ^ (64 - s) = r at *
    rw [← h, Int.add_mul, ← hpp]
    grind
  have hl6 : 0 ≤ lo % 2 ^ (64 - s) := Int.emod_nonneg _ (by omega)
  have hl7 : lo % 2 ^ (64 - s) < 2 ^ (64 - s) := Int.emod_lt_of_pos _ hp2
  have hl8 : lo % 2 ^ (64 - s) * 2 ^ s < 18446744073709551616 := by
    have := Int.mul_lt_mul_of_pos_right hl7 hp
    rw [Int.mul_comm (2 ^ (64 - s)), hpp] at this
    exact this
  have hl9 : 0 ≤ lo % 2 ^ (64 - s) * 2 ^ s := Int.mul_nonneg hl6 (by omega)
  have hlm : lo * 2 ^ s % 18446744073709551616 = lo % 2 ^ (64 - s) * 2 ^ s := by omega
  have hor : Go.bits .or .u64 (hi * 2 ^ s) (lo / 2 ^ (64 - s)) = hi * 2 ^ s + lo / 2 ^ (64 - s) :=
    or_join s _ _ hh0 (Int.mul_emod_left _ _) (by omega) hl3 hl4 (by omega)
  rw [hdm, hhm, hl2, hor, hlm]
  -- the whole, moved up
  have hN : (hi * 18446744073709551616 + lo) * 2 ^ s = (hi * 2 ^ s + lo / 2 ^ (64 - s)) * 18446744073709551616 + lo % 2 ^ (64 - s) * 2 ^ s := by
    have : (hi * 18446744073709551616 + lo) * 2 ^ s = hi * 2 ^ s * 18446744073709551616 + lo * 2 ^ s := by grind
    rw [this, hl5]
    grind
  have hdiv : (hi * 18446744073709551616 + lo) / d = (hi * 18446744073709551616 + lo) * 2 ^ s / (d * 2 ^ s) := (Int.mul_ediv_mul_of_pos_left _ _ hp).symm
  have hmod : (hi * 18446744073709551616 + lo) * 2 ^ s % (d * 2 ^ s) = (hi * 18446744073709551616 + lo) % d * 2 ^ s := by
    rw [Int.mul_comm _ (2 ^ s), Int.mul_comm d (2 ^ s), Int.mul_emod_mul_of_pos _ _ hp, Int.mul_comm]
  have hm1 := Int.emod_nonneg (hi * 18446744073709551616 + lo) (show d ≠ 0 by omega)
  have hmm : (hi * 18446744073709551616 + lo) % d = (hi * 18446744073709551616 + lo) * 2 ^ s % (d * 2 ^ s) / 2 ^ s := by rw [hmod, Int.mul_ediv_cancel _ (by omega)]
  rw [hdiv, hmm, hN]
  have hH : 0 ≤ hi * 2 ^ s + lo / 2 ^ (64 - s) := by omega
  have hHD : hi * 2 ^ s + lo / 2 ^ (64 - s) < d * 2 ^ s := by omega
  generalize hi * 2 ^ s + lo / 2 ^ (64 - s) = H at *
  generalize lo % 2 ^ (64 - s) * 2 ^ s = L at *
  generalize d * 2 ^ s = D at *
  refine Ev.bind (limb_digit_c b3.1 b3.2 hH hHD (by omega) (by omega)) ?_
  have r0 := Int.emod_nonneg (H * 4294967296 + L / 4294967296) (show D ≠ 0 by omega)
  have r1 := Int.emod_lt_of_pos (H * 4294967296 + L / 4294967296) (show 0 < D by omega)
  rw [and32 L (by omega) hl8]
  refine Ev.bind (limb_digit_c b3.1 b3.2 r0 r1 (by omega) (by omega)) ?_
  have q10 : 0 ≤ (H * 4294967296 + L / 4294967296) / D := Int.ediv_nonneg (by omega) (by omega)
  have q11 : (H * 4294967296 + L / 4294967296) / D < 4294967296 := by rw [Int.ediv_lt_iff_lt_mul (by omega)]; omega
  have md := Int.mul_ediv_add_emod (H * 4294967296 + L / 4294967296) D
  generalize (H * 4294967296 + L / 4294967296) / D = q1 at *
  generalize (H * 4294967296 + L / 4294967296) % D = r at *
  have hR : H * 18446744073709551616 + L = D * (q1 * 4294967296) + (r * 4294967296 + L % 4294967296) := by
    have : D * (q1 * 4294967296) = D * q1 * 4294967296 := by rw [Int.mul_assoc]
    rw [this]
    generalize D * q1 = z at *
    omega
  have q00 : 0 ≤ (r * 4294967296 + L % 4294967296) / D := Int.ediv_nonneg (by omega) (by omega)
  have q01 : (r * 4294967296 + L % 4294967296) / D < 4294967296 := by rw [Int.ediv_lt_iff_lt_mul (by omega)]; omega
  have s0 := Int.emod_nonneg (r * 4294967296 + L % 4294967296) (show D ≠ 0 by omega)
  have s1 := Int.emod_lt_of_pos (r * 4294967296 + L % 4294967296) (show 0 < D by omega)
  have eD : (D * (q1 * 4294967296) + (r * 4294967296 + L % 4294967296)) / D = (r * 4294967296 + L % 4294967296) / D + q1 * 4294967296 := by
    rw [Int.add_comm, Int.add_mul_ediv_left _ _ (by omega)]
  have eM : (D * (q1 * 4294967296) + (r * 4294967296 + L % 4294967296)) % D = (r * 4294967296 + L % 4294967296) % D := by
    rw [Int.add_comm, Int.add_mul_emod_self_left]
  rw [hR, eD, eM]
  have hw : Go.bits .or .u64 (IntKind.u64.wrap (q1 * 4294967296)) ((r * 4294967296 + L % 4294967296) / D) = (r * 4294967296 + L % 4294967296) / D + q1 * 4294967296 := by
    rw [wu_id (by omega) (by omega), or_join 32 _ _ (by omega) (by omega) (by omega) (by omega) (by omega) (by omega)]
    omega
  have hsh : shr .u64 ((r * 4294967296 + L % 4294967296) % D) (s : Int) = (r * 4294967296 + L % 4294967296) % D / 2 ^ s := by rw [shr_u _ _ (by omega), Int.toNat_natCast]
  exact Ev.same (by rw [hw, hsh])

/-! ### The reference, bit by bit -/
theorem div_pow_succ (b : Int) (n : Nat) : b / 2 ^ (n + 1) = b / 2 ^ n / 2 := by
  have hp := pow_pos n
  rw [Int.ediv_ediv_of_nonneg (by omega), Int.pow_succ]
theorem div_pow_range {b : Int} (hb : U b) (n : Nat) : 0 ≤ b / 2 ^ n ∧ b / 2 ^ n ≤ b := by
  have hp := pow_pos n
  exact ⟨Int.ediv_nonneg hb.1 (by omega), Int.ediv_le_self _ hb.1⟩
theorem ref01_Mul_l {a b : Int} (ha : U a) (hb : U b) (n : Nat) (hn : n ≤ 64) : ∀ hi lo : Int, U hi → U lo → hi * 18446744073709551616 + lo = a * (b / 2 ^ n) →
    Ev (fun k => gradineref01_Mul.l0 k a b hi lo ((n : Int) - 1)) (a * b / 18446744073709551616, a * b % 18446744073709551616) := by
  obtain ⟨ha0, ha1⟩ := ha
  induction n with
  | zero =>
    intro hi lo h1 h2 h
    unfold U at h1 h2
    rw [Int.pow_zero, Int.ediv_one] at h
    rw [← h]
    refine Ev.step (fun k => gradineref01_Mul.l0.eq_2 ..) ?_
    refine Ev.ifn (by omega) (Ev.same ?_)
    simp only [Option.some.injEq, Prod.mk.injEq]
    omega
  | succ n ih =>
    intro hi lo h1 h2 h
    have hr := div_pow_range hb n
    obtain ⟨hb0, hb1⟩ := hb
    unfold U at h1 h2
    have hmb := mul_bound (x := a) (y := b / 2 ^ n) (m := 18446744073709551615) (n := 18446744073709551615) ha0 (by omega) hr.1 (by omega)
    rw [div_pow_succ] at h
    simp only [Int.reduceMul] at hmb
    have hsplit : a * (b / 2 ^ n) = 2 * (a * (b / 2 ^ n / 2)) + a * (b / 2 ^ n % 2) := by
      have := Int.mul_ediv_add_emod (b / 2 ^ n) 2
      generalize b / 2 ^ n / 2 = q at *
      generalize b / 2 ^ n % 2 = r at *
      rw [← this]
      grind
    have hnn : 0 ≤ a * (b / 2 ^ n % 2) := Int.mul_nonneg ha0 (by omega)
    have hw : IntKind.u64.wrap (((n + 1 : Nat) : Int) - 1) = n := by rw [wu_id (by omega) (by omega)]; omega
    have hw6 : wrap64 (((n + 1 : Nat) : Int) - 1 - 1) = (n : Int) - 1 := by rw [w64_id (by omega) (by omega)]; omega
    refine Ev.step (fun k => gradineref01_Mul.l0.eq_2 ..) ?_
    refine Ev.ifp (by omega) ?_
    have ht : gradineref01_Twice.f hi lo 0 = some (hi * 2 + lo / 9223372036854775808, lo * 2 % 18446744073709551616, hi / 9223372036854775808 == 1) := by
      unfold gradineref01_Twice.f
      rw [wu, wu, or_join 1 _ _ (by omega) (by omega) (by omega) (by omega) (by omega) (by omega), or_join 1 _ _ (by omega) (by omega) (by omega) (by omega) (by omega) (by omega), Int.emod_eq_of_lt (by omega) (by omega), Int.add_zero]
    refine Ev.bindc ht ?_
    dsimp only
    rw [hw, hw6]
    refine Ev.ifp (by omega) ?_
    rw [shr_u _ _ (by omega), Int.toNat_natCast, and1 _ hr.1 (by omega)]
    by_cases hbit : b / 2 ^ n % 2 = 1
    · refine Ev.ifp hbit ?_
      rw [hbit, Int.mul_one] at hsplit
      simp only [wu]
      by_cases hc : (lo * 2 % 18446744073709551616 + a) % 18446744073709551616 < lo * 2 % 18446744073709551616
      · refine Ev.ifp hc ?_
        exact ih (by omega) _ _ (by unfold U; omega) (by unfold U; omega) (by omega)
      · refine Ev.ifn hc ?_
        exact ih (by omega) _ _ (by unfold U; omega) (by unfold U; omega) (by omega)
    · refine Ev.ifn hbit ?_
      rw [show b / 2 ^ n % 2 = 0 by omega, Int.mul_zero] at hsplit
      exact ih (by omega) _ _ (by unfold U; omega) (by unfold U; omega) (by omega)
theorem ref01_Mul_c {a b : Int} (ha : U a) (hb : U b) : Ev (fun k => gradineref01_Mul.f k a b) (a * b / 18446744073709551616, a * b % 18446744073709551616) := by
  refine ref01_Mul_l ha hb 64 (by omega) 0 0 (by unfold U; omega) (by unfold U; omega) ?_
  have hz : b / 2 ^ 64 = 0 := by unfold U at hb; omega
  rw [hz]
  omega
theorem ref01_Div_l {hi lo d : Int} (hhi : 0 ≤ hi) (hlt : hi < d) (hd : d < 18446744073709551616) (hlo : U lo) (n : Nat) (hn : n ≤ 64) : ∀ q r : Int, 0 ≤ q → 0 ≤ r → r < d → q * d + r = (hi * 18446744073709551616 + lo) / 2 ^ n →
    Ev (fun k => gradineref01_Div.l0 k lo d q r ((n : Int) - 1)) ((hi * 18446744073709551616 + lo) / d, (hi * 18446744073709551616 + lo) % d, true) := by
  induction n with
  | zero =>
    intro q r hq h1 h2 h
    rw [Int.pow_zero, Int.ediv_one] at h
    rw [← h]
    refine Ev.step (fun k => gradineref01_Div.l0.eq_2 ..) ?_
    refine Ev.ifn (by omega) (Ev.same ?_)
    rw [Int.mul_comm q d, Int.add_comm, Int.add_mul_ediv_left _ _ (by omega), Int.add_mul_emod_self_left, Int.ediv_eq_zero_of_lt h1 h2, Int.emod_eq_of_lt h1 h2, Int.zero_add]
  | succ n ih =>
    intro q r hq h1 h2 h
    obtain ⟨hlo0, hlo1⟩ := hlo
    have hp := pow_pos n
    rw [div_pow_succ] at h
    -- the next bit is the lower word's
    have hbit : (hi * 18446744073709551616 + lo) / 2 ^ n % 2 = lo / 2 ^ n % 2 := by
      have e : hi * 18446744073709551616 + lo = lo + 2 ^ n * (hi * 2 ^ (64 - n)) := by
        have : (2 : Int) ^ n * 2 ^ (64 - n) = 18446744073709551616 := by rw [← Int.pow_add, show n + (64 - n) = 64 by omega]; rfl
        rw [← this]
        grind
      rw [e, Int.add_mul_ediv_left _ _ (by omega), show 64 - n = (63 - n) + 1 by omega, Int.pow_succ, ← Int.mul_assoc]
      omega
    have hqd : q * d < 18446744073709551616 * d := by
      have a1 : (hi * 18446744073709551616 + lo) / 2 ^ n / 2 ≤ (hi * 18446744073709551616 + lo) / 2 ^ n := by
        have := Int.ediv_nonneg (a := hi * 18446744073709551616 + lo) (b := 2 ^ n) (by omega) (by omega)
        omega
      have a2 : (hi * 18446744073709551616 + lo) / 2 ^ n ≤ hi * 18446744073709551616 + lo := Int.ediv_le_self _ (by omega)
      omega
    have hql : q < 18446744073709551616 := Int.lt_of_mul_lt_mul_right hqd (by omega)
    -- so is the next one
    have hq2d : q * 2 * d ≤ (hi * 18446744073709551616 + lo) := by
      have a2 : (hi * 18446744073709551616 + lo) / 2 ^ n ≤ hi * 18446744073709551616 + lo := Int.ediv_le_self _ (by omega)
      have : q * 2 * d = 2 * (q * d) := by grind
      rw [this]
      omega
    have hq2 : q * 2 < 18446744073709551616 := Int.lt_of_mul_lt_mul_right (a := d) (by omega) (by omega)
    have hN : (hi * 18446744073709551616 + lo) / 2 ^ n = 2 * ((hi * 18446744073709551616 + lo) / 2 ^ n / 2) + lo / 2 ^ n % 2 := by omega
    have hrn := div_pow_range (b := lo) ⟨hlo0, hlo1⟩ n
    have hw : IntKind.u64.wrap (((n + 1 : Nat) : Int) - 1) = n := by rw [wu_id (by omega) (by omega)]; omega
    have hw6 : wrap64 (((n + 1 : Nat) : Int) - 1 - 1) = (n : Int) - 1 := by rw [w64_id (by omega) (by omega)]; omega
    refine Ev.step (fun k => gradineref01_Div.l0.eq_2 ..) ?_
    refine Ev.ifp (by omega) ?_
    rw [hw, hw6]
    refine Ev.ifp (by omega) ?_
    rw [shr_u _ _ (by omega), Int.toNat_natCast, and1 _ hrn.1 (by omega)]
    have ho : Go.bits .or .u64 (IntKind.u64.wrap (r * 2)) (lo / 2 ^ n % 2) = (r * 2 + lo / 2 ^ n % 2) % 18446744073709551616 := by
      rw [wu, or_join 1 _ _ (by omega) (by omega) (by omega) (by omega) (by omega) (by omega)]
      omega
    have hoq : Go.bits .or .u64 (IntKind.u64.wrap (q * 2)) 1 = q * 2 + 1 := by
      rw [wu, or_join 1 _ _ (by omega) (by omega) (by omega) (by omega) (by omega) (by omega)]
      omega
    rw [ho, hoq, wu_id (n := q * 2) (by omega) (by omega)]
    generalize lo / 2 ^ n % 2 = bit at *
    have hb01 : bit = 0 ∨ bit = 1 := by omega
    have hs1 : (q * 2 + 1) * d = 2 * (q * d) + d := by grind
    have hs0 : q * 2 * d = 2 * (q * d) := by grind
    by_cases hc : r / 9223372036854775808 = 1
    · refine Ev.ifp hc ?_
      rw [wu]
      exact ih (by omega) _ _ (by omega) (by omega) (by omega) (by rw [hs1]; omega)
    · refine Ev.ifn hc ?_
      by_cases hc2 : (r * 2 + bit) % 18446744073709551616 ≥ d
      · refine Ev.ifp hc2 ?_
        rw [wu]
        exact ih (by omega) _ _ (by omega) (by omega) (by omega) (by rw [hs1]; omega)
      · refine Ev.ifn hc2 ?_
        exact ih (by omega) _ _ (by omega) (by omega) (by omega) (by rw [hs0]; omega)
theorem ref01_Div_c {hi lo d : Int} (hhi : 0 ≤ hi) (hlt : hi < d) (hd : d < 18446744073709551616) (hlo : U lo) :
    Ev (fun k => gradineref01_Div.f k hi lo d) ((hi * 18446744073709551616 + lo) / d, (hi * 18446744073709551616 + lo) % d, true) := by
  refine Ev.ifn (by omega) ?_
  refine ref01_Div_l hhi hlt hd hlo 64 (by omega) 0 hi (by omega) hhi hlt ?_
  have : (2 : Int) ^ 64 = 18446744073709551616 := rfl
  rw [this]
  unfold U at hlo
  omega
theorem ref01_Div_no {hi lo d : Int} (h : hi ≥ d) : Ev (fun k => gradineref01_Div.f k hi lo d) (0, 0, false) := Ev.ifp h (Ev.same rfl)
end Go.Proofs.Ytldcgclbgbhffaa.M
