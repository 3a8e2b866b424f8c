/- What the functions of nat answer: numbers moved up and down, bits; and whether two lists are the same. -/
import Derived.Test.YtldcgclbgbhffaaC02
namespace Go.Proofs.Ytldcgclbgbhffaa.M
open Go.RowKit Go.Proofs.Ytldcgclbgbhffaa.P Go.Proofs.YtldcgclbgbhffaaW.PrintWords Go.Proofs.YtldcgclbgbhffaaW.PrintLast Go.Proofs.YtldcgclbgbhffaaW.PrintMore
set_option linter.unusedVariables false

theorem Words_l {a b : List Int} (hl : a.length = b.length) (hb : a.length ≤ 4611686018427387904) (d : Nat) : ∀ i : Nat, i + d = a.length → (a.take i = b.take i) → Ev (fun k => gradineplain_Words.l0 k a b (a.length : Int) i) (decide (a = b)) := by
  induction d with
  | zero =>
    intro i hi he
    refine Ev.step (fun k => gradineplain_Words.l0.eq_2 ..) ?_
    refine Ev.ifn (by omega) (Ev.same ?_)
    rw [List.take_of_length_le (by omega), List.take_of_length_le (by omega)] at he
    simp [he]
  | succ d ih =>
    intro i hi he
    refine Ev.step (fun k => gradineplain_Words.l0.eq_2 ..) ?_
    refine Ev.ifp (by omega) (Ev.ifp (by omega) (Ev.ifp (by omega) (Ev.ifp (by omega) ?_)))
    by_cases hc : rd a (i : Int) = rd b (i : Int)
    · refine Ev.ifp hc ?_
      have e : wrap64 ((i : Int) + 1) = ((i + 1 : Nat) : Int) := by rw [w64_id (by omega) (by omega)]; omega
      rw [e]
      refine ih (i + 1) (by omega) ?_
      rw [take_rd (by omega), take_rd (by omega), he, hc]
    · refine Ev.ifn hc (Ev.same ?_)
      have hne : a ≠ b := fun h => hc (by rw [h])
      simp [hne]
theorem Words_c {a b : List Int} (ha : a.length ≤ 4611686018427387904) : Ev (fun k => gradineplain_Words.f k a b) (decide (a = b)) := by
  by_cases h : (a.length : Int) = (b.length : Int)
  · exact Ev.ifp h (Words_l (by omega) ha a.length 0 (by omega) rfl)
  · refine Ev.ifn h (Ev.same ?_)
    have hne : a ≠ b := fun e => h (by rw [e])
    simp [hne]

/-- A fact that linear arithmetic is not to look at. -/
structure Hd (p : Prop) : Prop where mk :: (out : p)
theorem sub_succ_of {i m : Nat} (h : m ≤ i) : i + 1 - m = i - m + 1 := by omega
/-! ### Up and down -/
def shn (n : Int) : Nat := (mn (mx n 0) 65536).toNat
theorem shn_le (n : Int) : shn n ≤ 65536 := by unfold shn mn; split <;> omega
theorem shn_of {n : Int} (h0 : 0 ≤ n) (h1 : n ≤ 65536) : shn n = n.toNat := by unfold shn mn mx; split <;> split <;> omega
theorem shn_eq (n : Int) : mn (mx n 0) 65536 = (shn n : Int) := by unfold shn mn mx; split <;> split <;> omega
theorem mul_mod_left (x y : Int) : x % 18446744073709551616 * y % 18446744073709551616 = x * y % 18446744073709551616 := by
  rw [Int.mul_emod, Int.emod_emod_of_dvd _ (Int.dvd_refl _), ← Int.mul_emod]
theorem w_split {b : Nat} (h : b ≤ 64) : (2 : Int) ^ (64 - b) * 2 ^ b = 18446744073709551616 := by
  rw [← Int.pow_add, show 64 - b + b = 64 by omega]; rfl
theorem mod_up (z : Int) {b : Nat} (h : b ≤ 64) : z * 2 ^ (64 - b) % 18446744073709551616 = 2 ^ (64 - b) * (z % 2 ^ b) := by
  rw [← w_split h, Int.mul_comm z, Int.mul_emod_mul_of_pos _ _ (pow_pos _)]
theorem mod_up' (z : Int) {b : Nat} (h : b ≤ 64) : z * 2 ^ b % 18446744073709551616 = 2 ^ b * (z % 2 ^ (64 - b)) := by
  have := mod_up z (b := 64 - b) (by omega)
  rwa [show 64 - (64 - b) = b by omega] at this
theorem div_div_pow (x : Int) {b : Nat} (h : b ≤ 63) : x / 2 / 2 ^ (63 - b) = x / 2 ^ (64 - b) := by
  rw [Int.ediv_ediv_of_nonneg (by omega), show 64 - b = (63 - b) + 1 by omega, Int.pow_succ, Int.mul_comm]
theorem shl_word {x c : Int} (hx : U x) {b : Nat} (hb : b ≤ 63) (hc0 : 0 ≤ c) (hc1 : c < 2 ^ b) :
    Go.bits .or .u64 (IntKind.u64.wrap (x * 2 ^ b)) c = x * 2 ^ b % 18446744073709551616 + c ∧ x * 2 ^ b = x / 2 ^ (64 - b) * 18446744073709551616 + x * 2 ^ b % 18446744073709551616 ∧ 0 ≤ x / 2 ^ (64 - b) ∧ x / 2 ^ (64 - b) < 2 ^ b ∧ U (x * 2 ^ b % 18446744073709551616 + c) := by
  obtain ⟨hx0, hx1⟩ := hx
  have hp := pow_pos b
  have hp2 := pow_pos (64 - b)
  have hpp := w_split (b := b) (by omega)
  have hb64 : (2 : Int) ^ b ≤ 2 ^ 63 := pow_le_pow hb
  have e1 := mod_up' x (b := b) (by omega)
  have m0 := Int.emod_nonneg x (show (2 : Int) ^ (64 - b) ≠ 0 by omega)
  have m1 := Int.emod_lt_of_pos x hp2
  have hdm := Int.mul_ediv_add_emod x (2 ^ (64 - b))
  have q0 := Int.ediv_nonneg hx0 (show (0 : Int) ≤ 2 ^ (64 - b) by omega)
  have q1 : x / 2 ^ (64 - b) < 2 ^ b := by rw [Int.ediv_lt_iff_lt_mul hp2, Int.mul_comm, hpp]; exact hx1
  have hle : 2 ^ b * (x % 2 ^ (64 - b)) + 2 ^ b ≤ 18446744073709551616 := by
    rw [← hpp, Int.mul_comm (2 ^ (64 - b))]
    have := Int.mul_le_mul_of_nonneg_left (show x % 2 ^ (64 - b) + 1 ≤ 2 ^ (64 - b) by omega) (Int.le_of_lt hp)
    rw [Int.mul_add, Int.mul_one] at this
    exact this
  have hnn : 0 ≤ 2 ^ b * (x % 2 ^ (64 - b)) := Int.mul_nonneg (by omega) m0
  refine ⟨?_, ?_, q0, q1, ?_⟩
  · rw [wu, e1, or_join b _ _ hnn (Int.mul_emod_right _ _) (by omega) hc0 hc1 (by omega)]
  · rw [e1, ← hpp]
    generalize x / 2 ^ (64 - b) = q at *
    generalize x % 2 ^ (64 - b) = r at *
    generalize (2 : Int) ^ (64 - b) = P at *
    generalize (2 : Int) ^ b = Q at *
    rw [← hdm]
    grind
  · rw [e1]; unfold U; omega
theorem nat_Shl_l {a : List Int} (ha : Wl a) {b m : Nat} (hb : b ≤ 63) (hm : m ≤ 100000) (hla : a.length ≤ 900000000) (d : Nat) : ∀ (i : Nat) (out : List Int) (c : Int), i + d = a.length → out.length = m + i → Ws out → 0 ≤ c → c < 2 ^ b → nv out + Wp (m + i) * c = Wp m * (nv (a.take i) * 2 ^ b) →
    Ev (fun k => nat_Shl.l0 k (b : Int) out c a (a.length : Int) i) (dg (Wp m * (nv a * 2 ^ b))) := by
  have hb64 : (2 : Int) ^ b ≤ 2 ^ 63 := pow_le_pow hb
  induction d with
  | zero =>
    intro i out c hi hlo hwo h0 h1 he
    refine Ev.step (fun k => nat_Shl.l0.eq_2 ..) ?_
    refine Ev.ifn (by omega) (Ev.ifp (by omega) ?_)
    rw [List.take_of_length_le (by omega)] at he
    rw [← he, ← hlo, ← nv_snoc]
    exact Ev.bind (nat_Trim_c ⟨Wl_snoc hwo (by unfold U; omega), by simp; omega⟩) (Ev.same rfl)
  | succ d ih =>
    intro i out c hi hlo hwo h0 h1 he
    have hx := U_rd ha.1 (i : Int)
    obtain ⟨w1, w2, w3, w4, w5⟩ := shl_word hx hb h0 h1
    refine Ev.step (fun k => nat_Shl.l0.eq_2 ..) ?_
    refine Ev.ifp (by omega) (Ev.ifp (by omega) (Ev.ifp (by omega) (Ev.ifp (by omega) ?_)))
    have e : wrap64 ((i : Int) + 1) = ((i + 1 : Nat) : Int) := by rw [w64_id (by omega) (by omega)]; omega
    have e63 : (63 - (b : Int)).toNat = 63 - b := by omega
    rw [e, Int.toNat_natCast, e63, w1, div_div_pow _ hb]
    refine ih (i + 1) _ _ (by omega) (by rw [List.length_append, hlo]; rfl) (Wl_snoc hwo w5) w3 w4 ?_
    rw [nv_snoc, hlo, nv_take_succ (by omega), show m + (i + 1) = m + i + 1 by omega, Wp_succ]
    have hwa := Wp_add m i
    generalize rd a (i : Int) / 2 ^ (64 - b) = q at *
    generalize rd a (i : Int) * 2 ^ b % 18446744073709551616 = r at *
    rw [Int.add_mul, Int.mul_add (Wp m), ← he]
    have : Wp i * rd a (i : Int) * 2 ^ b = Wp i * (q * 18446744073709551616 + r) := by rw [Int.mul_assoc, w2]
    rw [this, hwa]
    grind
theorem nat_Shl_c {a : List Int} (ha : Wl a) (hla : a.length ≤ 900000000) (n : Int) : Ev (fun k => nat_Shl.f k a n) (dg (nv a * 2 ^ shn n)) := by
  have hs := shn_le n
  obtain ⟨b, m, hb, hm, hbm⟩ : ∃ b m : Nat, b ≤ 63 ∧ m ≤ 1024 ∧ shn n = 64 * m + b := ⟨shn n % 64, shn n / 64, by omega, by omega, by omega⟩
  have e1 : mn (mx n 0) 65536 / 64 = (m : Int) := by rw [shn_eq]; omega
  have e2 : mn (mx n 0) 65536 % 64 = (b : Int) := by rw [shn_eq]; omega
  unfold nat_Shl.f
  rw [e1, e2]
  have e3 : wrap64 (wrap64 ((m : Int) + (a.length : Int)) + 1) = (m : Int) + (a.length : Int) + 1 := by
    rw [w64_id (n := (m : Int) + (a.length : Int)) (by omega) (by omega), w64_id (by omega) (by omega)]
  rw [e3]
  refine Ev.ifp (by omega) (Ev.ifp (by omega) (Ev.ifp (by omega) ?_))
  rw [Int.toNat_natCast]
  refine (nat_Shl_l (m := m) ha hb (by omega) hla a.length 0 (List.replicate m 0) 0 (by omega) (by simp) (Ws_zeros _) (by omega) (pow_pos b) ?_).eqr ?_
  · rw [nv_zeros]; simp [nv]
  · rw [hbm, Int.pow_add, ← Wp_two]
    congr 1
    grind
/-- A word moved down, with what comes in from the next one. -/
theorem shr_word {y z T : Int} (hy : U y) (hz : U z) {b : Nat} (hb : b ≤ 63) (hT : ∃ t, T = z + 18446744073709551616 * t) :
    Go.bits .or .u64 (y / 2 ^ b) (IntKind.u64.wrap (IntKind.u64.wrap (z * 2) * 2 ^ (63 - b))) = y / 2 ^ b + 2 ^ (64 - b) * (z % 2 ^ b) ∧ U (y / 2 ^ b + 2 ^ (64 - b) * (z % 2 ^ b)) ∧ (y + 18446744073709551616 * T) / 2 ^ b = y / 2 ^ b + 2 ^ (64 - b) * (z % 2 ^ b) + 18446744073709551616 * (T / 2 ^ b) := by
  obtain ⟨hy0, hy1⟩ := hy
  obtain ⟨hz0, hz1⟩ := hz
  have hp := pow_pos b
  have hp2 := pow_pos (64 - b)
  have hpp := w_split (b := b) (by omega)
  have m0 := Int.emod_nonneg z (show (2 : Int) ^ b ≠ 0 by omega)
  have m1 := Int.emod_lt_of_pos z hp
  have q0 := Int.ediv_nonneg hy0 (show (0 : Int) ≤ 2 ^ b by omega)
  have q1 : y / 2 ^ b < 2 ^ (64 - b) := by rw [Int.ediv_lt_iff_lt_mul hp, hpp]; exact hy1
  have hle : 2 ^ (64 - b) * (z % 2 ^ b) + 2 ^ (64 - b) ≤ 18446744073709551616 := by
    rw [← hpp]
    have := Int.mul_le_mul_of_nonneg_left (show z % 2 ^ b + 1 ≤ 2 ^ b by omega) (Int.le_of_lt hp2)
    rw [Int.mul_add, Int.mul_one] at this
    exact this
  have hnn : 0 ≤ 2 ^ (64 - b) * (z % 2 ^ b) := Int.mul_nonneg (by omega) m0
  have hsh : IntKind.u64.wrap (IntKind.u64.wrap (z * 2) * 2 ^ (63 - b)) = 2 ^ (64 - b) * (z % 2 ^ b) := by
    rw [wu, wu, mul_mod_left, ← mod_up z (b := b) (by omega), Int.mul_assoc, show (2 : Int) * 2 ^ (63 - b) = 2 ^ (64 - b) by rw [show 64 - b = (63 - b) + 1 by omega, Int.pow_succ, Int.mul_comm]]
  refine ⟨?_, by unfold U; omega, ?_⟩
  · rw [hsh, or_comm _ _ q0 (by omega) hnn (by omega), or_join (64 - b) _ _ hnn (Int.mul_emod_right _ _) (by omega) q0 q1 (by omega)]
    omega
  · obtain ⟨t, ht⟩ := hT
    have hTm : T % 2 ^ b = z % 2 ^ b := by
      rw [ht, ← hpp, show z + 2 ^ (64 - b) * 2 ^ b * t = z + 2 ^ b * (2 ^ (64 - b) * t) by grind, Int.add_mul_emod_self_left]
    have hTd := Int.mul_ediv_add_emod T (2 ^ b)
    have e : y + 18446744073709551616 * T = y + 2 ^ b * (2 ^ (64 - b) * T) := by rw [← hpp]; grind
    rw [e, Int.add_mul_ediv_left _ _ (by omega)]
    conv => lhs; rhs; rw [← hTd, hTm]
    rw [← hpp]
    grind
theorem shr_word0 {y T : Int} (hy : U y) {b : Nat} (hb : b ≤ 63) (hT : T = 0) : Go.bits .or .u64 (y / 2 ^ b) 0 = y / 2 ^ b ∧ U (y / 2 ^ b) ∧ (y + 18446744073709551616 * T) / 2 ^ b = y / 2 ^ b + 18446744073709551616 * (T / 2 ^ b) := by
  have h := shr_word (T := 0) hy (z := 0) (by unfold U; omega) hb ⟨0, by omega⟩
  simp only [Int.zero_mul, Int.zero_emod, Int.mul_zero, Int.add_zero, Int.zero_ediv] at h
  subst hT
  refine ⟨?_, h.2.1, by simp⟩
  have h1 := h.1
  rw [wu, wu] at h1
  simpa using h1
theorem drop_rd {l : List Int} {i : Nat} (h : i < l.length) : l.drop i = rd l (i : Int) :: l.drop (i + 1) := by
  rw [List.drop_eq_getElem_cons h]
  unfold rd
  rw [Int.toNat_natCast, List.getD_eq_getElem?_getD, List.getElem?_eq_getElem h]
  rfl
theorem nat_Shr_l {a : List Int} (ha : Wl a) {b m : Nat} (hb : b ≤ 63) (d : Nat) : ∀ (i : Nat) (out : List Int), i + d = a.length → m ≤ i → out.length = i - m → Ws out → nv out + Wp (i - m) * (nv (a.drop i) / 2 ^ b) = nv (a.drop m) / 2 ^ b →
    Ev (fun k => nat_Shr.l0 k a (b : Int) out i) (dg (nv (a.drop m) / 2 ^ b)) := by
  have hal := ha.2
  induction d with
  | zero =>
    intro i out hi hmi hlo hwo he
    refine Ev.step (fun k => nat_Shr.l0.eq_2 ..) ?_
    refine Ev.ifn (by omega) ?_
    rw [List.drop_eq_nil_of_le (show a.length ≤ i by omega)] at he
    simp [nv] at he
    rw [← he]
    exact Ev.bind (nat_Trim_c ⟨hwo, by omega⟩) (Ev.same rfl)
  | succ d ih =>
    intro i out hi hmi hlo hwo he
    have hx := U_rd ha.1 (i : Int)
    rw [drop_rd (by omega), nv_cons] at he
    have HE := Hd.mk he
    clear he
    have hsub := sub_succ_of hmi
    have e : wrap64 ((i : Int) + 1) = ((i + 1 : Nat) : Int) := by rw [w64_id (by omega) (by omega)]; omega
    have e63 : (63 - (b : Int)).toNat = 63 - b := by omega
    refine Ev.step (fun k => nat_Shr.l0.eq_2 ..) ?_
    refine Ev.ifp (by omega) ?_
    rw [e, Int.toNat_natCast, e63]
    by_cases hn : ((i + 1 : Nat) : Int) < (a.length : Int)
    · refine Ev.ifp hn (Ev.ifp (by omega) (Ev.ifp (by omega) (Ev.ifp (by omega) ?_)))
      obtain ⟨w1, w2, w3'⟩ := shr_word (T := nv (a.drop (i + 1))) hx (U_rd ha.1 ((i + 1 : Nat) : Int)) hb ⟨nv (a.drop (i + 1 + 1)), by rw [drop_rd (show i + 1 < a.length by omega), nv_cons]⟩
      have W3 := Hd.mk w3'
      clear w3'
      rw [w1]
      refine ih (i + 1) _ (by omega) (by omega) (by rw [List.length_append, hlo, hsub]; rfl) (Wl_snoc hwo w2) ?_
      have he := HE.out
      rw [W3.out] at he
      rw [nv_snoc, hlo, hsub, Wp_succ, ← he]
      grind
    · refine Ev.ifn hn (Ev.ifp (by omega) (Ev.ifp (by omega) ?_))
      have hz : nv (a.drop (i + 1)) = 0 := by rw [List.drop_eq_nil_of_le (by omega)]; rfl
      obtain ⟨w1, w2, w3'⟩ := shr_word0 hx hb hz
      have W3 := Hd.mk w3'
      clear w3'
      rw [w1]
      refine ih (i + 1) _ (by omega) (by omega) (by rw [List.length_append, hlo, hsub]; rfl) (Wl_snoc hwo w2) ?_
      have he := HE.out
      rw [W3.out] at he
      rw [nv_snoc, hlo, hsub, Wp_succ, ← he]
      grind
theorem nv_div_Wp {a : List Int} (ha : Ws a) (m : Nat) : nv a / Wp m = nv (a.drop m) := by
  have h1 := nv_split a m
  have h2 := nv_lt (Ws_take ha m)
  have h3 := nv_nonneg (Ws_take ha m)
  have h4 := Wp_pos m
  rw [List.length_take] at h2
  rcases Nat.lt_or_ge m a.length with h | h
  · rw [Nat.min_eq_left (by omega)] at h1 h2
    rw [h1, Int.add_mul_ediv_left _ _ (by omega), Int.ediv_eq_zero_of_lt h3 h2, Int.zero_add]
  · have h5 := nv_lt ha
    have h6 := Wp_le h
    rw [List.drop_eq_nil_of_le h, Int.ediv_eq_zero_of_lt (nv_nonneg ha) (by omega)]
    rfl
theorem nat_Shr_c {a : List Int} (ha : Wl a) {n : Int} (hn : n ≤ 9223372036854775807) : Ev (fun k => nat_Shr.f k a n) (dg (nv a / 2 ^ n.toNat)) := by
  have hal := ha.2
  have hmx : mx n 0 = (n.toNat : Int) := by unfold mx; split <;> omega
  obtain ⟨b, m, hb, hbm⟩ : ∃ b m : Nat, b ≤ 63 ∧ n.toNat = 64 * m + b := ⟨n.toNat % 64, n.toNat / 64, by omega, by omega⟩
  have e1 : wrap64 ((n.toNat : Int) / 64) = (m : Int) := by rw [w64_id (by omega) (by omega)]; omega
  have e2 : (n.toNat : Int) % 64 = (b : Int) := by omega
  have hdiv : nv a / 2 ^ n.toNat = nv (a.drop m) / 2 ^ b := by
    have hp := Wp_pos m
    rw [hbm, Int.pow_add, ← Wp_two, ← Int.ediv_ediv_of_nonneg (by omega), nv_div_Wp ha.1]
  unfold nat_Shr.f
  rw [hmx, e1, e2, hdiv]
  by_cases h : (m : Int) ≥ (a.length : Int)
  · refine Ev.ifp h (Ev.same ?_)
    rw [List.drop_eq_nil_of_le (by omega)]
    simp [nv, dg_zero]
  · refine Ev.ifn h ?_
    rw [w64_id (by omega) (by omega)]
    refine Ev.ifp (by omega) (Ev.ifp (by omega) ?_)
    refine nat_Shr_l ha hb (a.length - m) m [] (by omega) (by omega) (by simp) Ws_nil ?_
    simp [nv, Wp_zero]

/-! ### Bits -/
theorem bl_top_word {l : List Int} (h : Ws l) {n : Nat} (hn : (dg (nv l)).length = n + 1) : bl (nv l) = 64 * n + bl (rd l (n : Int)) ∧ 0 < rd l (n : Int) := by
  have h0 := nv_nonneg h
  have hle := dg_len_list h
  have h1 := nv_take_dg h
  rw [hn, nv_take_succ (by omega)] at h1
  have h2 := nv_lt (Ws_take h n)
  have h3 := nv_nonneg (Ws_take h n)
  rw [List.length_take, Nat.min_eq_left (by omega)] at h2
  have hp := Wp_pos n
  have hpos : 0 < nv l := by
    rcases (show nv l = 0 ∨ 0 < nv l by omega) with h4 | h4
    · rw [h4] at hn; simp [dg_zero] at hn
    · exact h4
  have h5 := dg_len_lt hpos
  rw [hn] at h5
  have hu := U_rd h (n : Int)
  have hr : 1 ≤ rd l (n : Int) := by
    rcases (show rd l (n : Int) ≤ 0 ∨ 1 ≤ rd l (n : Int) by omega) with h6 | h6
    · have : Wp n * rd l (n : Int) ≤ 0 := Int.mul_nonpos_of_nonneg_of_nonpos (by omega) h6
      simp at h5
      omega
    · exact h6
  have hq : nv l / 2 ^ (64 * n) = rd l (n : Int) := by
    rw [← Wp_two, ← h1, Int.add_mul_ediv_left _ _ (by omega), Int.ediv_eq_zero_of_lt h3 h2, Int.zero_add]
  have h7 : 2 ^ (64 * n) ≤ nv l := by rw [← Wp_two]; simpa using h5
  refine ⟨?_, by omega⟩
  rw [bl_shr h7, hq]
  omega
theorem nat_Bits_c {l : List Int} (h : Wl l) : Ev (fun k => nat_Bits.f k l) (bl (nv l)) := by
  have hl := h.2
  have hle := dg_len_list h.1
  have h0 := nv_nonneg h.1
  refine Ev.bind (nat_size_c h) ?_
  by_cases hz : (dg (nv l)).length = 0
  · refine Ev.ifp (by omega) (Ev.same ?_)
    rw [(dg_len_zero h0).1 hz, bl_zero]
  · obtain ⟨n, hn⟩ : ∃ n, (dg (nv l)).length = n + 1 := ⟨(dg (nv l)).length - 1, by omega⟩
    obtain ⟨hb, hr⟩ := bl_top_word h.1 hn
    have e : wrap64 (((dg (nv l)).length : Int) - 1) = (n : Int) := by rw [w64_id (by omega) (by omega)]; omega
    have hu := U_rd h.1 (n : Int)
    have hb2 := bl_64 hu.2
    have hb3 := bl_nonneg (rd l (n : Int))
    refine Ev.ifn (by omega) ?_
    rw [e]
    refine Ev.ifp (by omega) (Ev.ifp (by omega) (Ev.bind (limb_Len_c hu) (Ev.same ?_)))
    rw [hb, w64_id (n := 64 * (n : Int)) (by omega) (by omega), w64_id (by omega) (by omega)]
/-- Has a number a bit? -/
def bitI (x i : Int) : Bool := decide (0 ≤ i) && decide (x / 2 ^ i.toNat % 2 = 1)
theorem bit_list {l : List Int} (h : Ws l) (i : Nat) : nv l / 2 ^ i % 2 = rd l ((i / 64 : Nat) : Int) / 2 ^ (i % 64) % 2 := by
  have e : i = 64 * (i / 64) + i % 64 := by omega
  have hp := Wp_pos (i / 64)
  conv => lhs; rw [e, Int.pow_add, ← Wp_two, ← Int.ediv_ediv_of_nonneg (Int.le_of_lt hp), nv_div_Wp h]
  rcases Nat.lt_or_ge (i / 64) l.length with h1 | h1
  · rw [drop_rd h1, nv_cons]
    have e2 : (18446744073709551616 : Int) = 2 ^ (i % 64) * (2 ^ (63 - i % 64) * 2) := by
      rw [show (2 : Int) ^ (63 - i % 64) * 2 = 2 ^ (64 - i % 64) by rw [show 64 - i % 64 = (63 - i % 64) + 1 by omega, Int.pow_succ], ← Int.pow_add, show i % 64 + (64 - i % 64) = 64 by omega]; rfl
    have hp2 := pow_pos (i % 64)
    rw [e2, Int.mul_assoc, Int.add_mul_ediv_left _ _ (by omega), show (2 : Int) ^ (63 - i % 64) * 2 * nv (l.drop (i / 64 + 1)) = 2 * (2 ^ (63 - i % 64) * nv (l.drop (i / 64 + 1))) by grind, Int.add_mul_emod_self_left]
  · rw [List.drop_eq_nil_of_le h1]
    unfold rd
    rw [List.getD_eq_getElem?_getD, Int.toNat_natCast, List.getElem?_eq_none h1]
    simp [nv]
theorem word_bit {x : Int} (h : U x) (i : Nat) (hi : i < 64) : (Go.bits .and .u64 (shr .u64 x (i : Int)) 1 == 1) = decide (x / 2 ^ i % 2 = 1) := by
  have hr := div_pow_range h i
  rw [shr_u _ _ (by omega), Int.toNat_natCast, and1 _ hr.1 (by unfold U at h; omega)]
  by_cases hb : x / 2 ^ i % 2 = 1 <;> simp [hb]
theorem nat_Bit_c {l : List Int} (h : Wl l) {i : Int} (hi : i ≤ 9223372036854775807) : nat_Bit.f l i = some (bitI (nv l) i) := by
  have hl := h.2
  unfold nat_Bit.f bitI
  by_cases h0 : i ≥ 0
  · obtain ⟨n, rfl⟩ := Int.eq_ofNat_of_zero_le h0
    have hb := bit_list h.1 n
    rw [if_pos h0, Int.tdiv_eq_ediv_of_nonneg h0, Int.tmod_eq_emod_of_nonneg h0, w64_id (by omega) (by omega), Int.toNat_natCast, hb]
    have e1 : (n : Int) / 64 = ((n / 64 : Nat) : Int) := by omega
    have e2 : (n : Int) % 64 = ((n % 64 : Nat) : Int) := by omega
    rw [e1, e2]
    by_cases h1 : ((n / 64 : Nat) : Int) < (l.length : Int)
    · rw [if_pos h1, if_pos (by omega), if_pos (by omega), word_bit (U_rd h.1 _) _ (by omega)]
      simp
    · rw [if_neg h1]
      have : rd l ((n / 64 : Nat) : Int) = 0 := by
        unfold rd
        rw [List.getD_eq_getElem?_getD, Int.toNat_natCast, List.getElem?_eq_none (by omega)]
        rfl
      rw [this]
      simp
  · rw [if_neg h0]
    simp; omega
/-- How often a number can be halved: found by looking. -/
def tzF : Nat → Int → Int
  | 0, _ => 0
  | k + 1, x => if x % 2 = 1 then 0 else 1 + tzF k (x / 2)
def tz (x : Int) : Int := if x ≤ 0 then 0 else tzF x.toNat x
theorem tzF_spec : ∀ (k : Nat) (x : Int), 0 < x → x.toNat ≤ k → ∃ n : Nat, tzF k x = n ∧ x / 2 ^ n % 2 = 1 ∧ ∀ j, j < n → x / 2 ^ j % 2 = 0
  | 0, x, h, hk => by omega
  | k + 1, x, h, hk => by
    unfold tzF
    by_cases h1 : x % 2 = 1
    · exact ⟨0, by rw [if_pos h1]; rfl, by simpa using h1, fun j hj => by omega⟩
    · obtain ⟨n, e, h2, h3⟩ := tzF_spec k (x / 2) (by omega) (by omega)
      have hd : ∀ j : Nat, x / 2 ^ (j + 1) = x / 2 / 2 ^ j := fun j => by
        rw [Int.ediv_ediv_of_nonneg (by omega), Int.pow_succ, Int.mul_comm]
      refine ⟨n + 1, by rw [if_neg h1, e]; omega, by rw [hd]; exact h2, fun j hj => ?_⟩
      cases j with
      | zero => rw [Int.pow_zero, Int.ediv_one]; omega
      | succ j => rw [hd]; exact h3 j (by omega)
theorem tz_spec {x : Int} (h : 0 < x) : ∃ n : Nat, tz x = n ∧ x / 2 ^ n % 2 = 1 ∧ ∀ j, j < n → x / 2 ^ j % 2 = 0 := by
  unfold tz
  rw [if_neg (by omega)]
  exact tzF_spec _ x h (Nat.le_refl _)
theorem tz_lt {x : Int} (h : 0 < x) : tz x < bl x := by
  obtain ⟨n, e, h1, _⟩ := tz_spec h
  rcases Int.lt_or_le (tz x) (bl x) with h2 | h2
  · exact h2
  · have h3 := bl_lt x
    have h4 := pow_le_pow (a := (bl x).toNat) (b := n) (by omega)
    rw [Int.ediv_eq_zero_of_lt (by omega) (by omega)] at h1
    omega
theorem nat_Even_l {l : List Int} (h : Wl l) {n : Nat} (he : tz (nv l) = n) (h1 : nv l / 2 ^ n % 2 = 1) (h2 : ∀ j, j < n → nv l / 2 ^ j % 2 = 0) {len : Int} (hlen : (n : Int) < len) (hn : n ≤ 100000000000) (d : Nat) : ∀ i : Nat, i + d = n → Ev (fun k => nat_Even.l0 k l len i) (n : Int) := by
  induction d with
  | zero =>
    intro i hi
    obtain rfl : i = n := by omega
    refine Ev.step (fun k => nat_Even.l0.eq_2 ..) ?_
    refine Ev.ifp hlen (Ev.bindc (nat_Bit_c h (by omega)) ?_)
    refine Ev.ifp ?_ (Ev.same rfl)
    unfold bitI
    rw [Int.toNat_natCast, h1]
    simp
  | succ d ih =>
    intro i hi
    refine Ev.step (fun k => nat_Even.l0.eq_2 ..) ?_
    refine Ev.ifp (by omega) (Ev.bindc (nat_Bit_c h (by omega)) ?_)
    refine Ev.ifn ?_ ?_
    · unfold bitI
      rw [Int.toNat_natCast, h2 i (by omega)]
      simp
    · have e : wrap64 ((i : Int) + 1) = ((i + 1 : Nat) : Int) := by rw [w64_id (by omega) (by omega)]; omega
      rw [e]
      exact ih (i + 1) (by omega)
theorem nat_Even_c {l : List Int} (h : Wl l) : Ev (fun k => nat_Even.f k l) (tz (nv l)) := by
  have hl := h.2
  have hb := bl_nv h.1
  have h0 := nv_nonneg h.1
  refine Ev.bind (nat_Bits_c h) ?_
  rcases (show nv l = 0 ∨ 0 < nv l by omega) with hz | hp
  · rw [hz]
    refine Ev.step (fun k => nat_Even.l0.eq_2 ..) ?_
    exact Ev.ifn (by rw [bl_zero]; omega) (Ev.same rfl)
  · obtain ⟨n, e, h1, h2⟩ := tz_spec hp
    have := tz_lt hp
    rw [e]
    exact nat_Even_l h e h1 h2 (by omega) (by omega) n 0 (by omega)
end Go.Proofs.Ytldcgclbgbhffaa.M
