/- What the reference's quotient and its greatest common divisor answer. -/
import Derived.Test.YtldcgclbgbhffaaBgradineref02
import Derived.Test.YtldcgclbgbhffaaC04r
import Derived.Test.YtldcgclbgbhffaaM5
import Derived.Test.YtldcgclbgbhffaaBgradineref04
import Derived.Test.YtldcgclbgbhffaaBgradineref05
namespace Go.Proofs.Ytldcgclbgbhffaa.M
open Go.RowKit Go.Proofs.Ytldcgclbgbhffaa.P Go.Proofs.YtldcgclbgbhffaaW.PrintWords Go.Proofs.YtldcgclbgbhffaaW.PrintLast Go.Proofs.YtldcgclbgbhffaaW.PrintMore
set_option linter.unusedVariables false

theorem one_word {l : List Int} (h : Ws l) (h1 : (dg (nv l)).length = 1) : 0 < l.length ∧ rd l 0 = nv l ∧ 0 < nv l ∧ nv l < 18446744073709551616 := by
  have h0 := nv_nonneg h
  have hlt := lt_Wp_dg h0
  rw [h1] at hlt
  have hW : Wp 1 = 18446744073709551616 := by decide
  rw [hW] at hlt
  have hne : nv l ≠ 0 := fun k => by rw [k] at h1; cases h1
  cases l with
  | nil => exact absurd rfl hne
  | cons x l =>
    have hx := Ws_cons.1 h
    have hn := nv_nonneg hx.2
    have hU := hx.1
    unfold U at hU
    rw [nv_cons] at hlt hne h0 ⊢
    refine ⟨by simp, ?_, by omega, hlt⟩
    show x = _
    omega
theorem div_two_step (A : Int) (i : Nat) : A / 2 ^ i = 2 * (A / 2 ^ (i + 1)) + A / 2 ^ i % 2 := by
  rw [Int.pow_succ, ← Int.ediv_ediv_of_nonneg (by have := pow_pos i; omega)]
  omega
theorem ref04_Div_l {a b : List Int} (ha : Wl a) (hb : Wl b) (hla : a.length ≤ 2000) (hlb : b.length ≤ 2000) (hB : 0 < nv b) (j : Nat) (hj : j ≤ 200000) :
    ∀ q r : List Int, Ws q → q.length ≤ 4000 → Ws r → r.length ≤ 4000 → nv q % 2 ^ j = 0 → nv r < nv b → nv a / 2 ^ j = nv q / 2 ^ j * nv b + nv r →
      Ev (fun k => gradineref04_Div.l0 k a b q r ((j : Int) - 1)) (dg (nv a / nv b), dg (nv a % nv b)) := by
  induction j with
  | zero =>
    intro q r hq hlq hr hlr hm hlt he
    refine Ev.step (fun k => gradineref04_Div.l0.eq_2 ..) (Ev.ifn (by omega) ?_)
    rw [Int.pow_zero, Int.ediv_one, Int.ediv_one] at he
    have hr0 := nv_nonneg hr
    have hdiv := (Int.ediv_emod_unique (a := nv a) (b := nv b) (r := nv r) (q := nv q) hB).2 ⟨by rw [he, Int.mul_comm]; omega, hr0, hlt⟩
    rw [hdiv.1, hdiv.2]
    exact Ev.bind (ref02_Trim_c ⟨hq, by omega⟩) (Ev.bind (ref02_Trim_c ⟨hr, by omega⟩) (Ev.same rfl))
  | succ j ih =>
    intro q r hq hlq hr hlr hm hlt he
    have hp := pow_pos j
    have hq0 := nv_nonneg hq
    have hr0 := nv_nonneg hr
    have hA0 := nv_nonneg ha.1
    have ej : ((j + 1 : Nat) : Int) - 1 = (j : Int) := by omega
    rw [ej]
    -- the quotient so far has no bit at j
    have hm' := Int.mul_ediv_add_emod (nv q) (2 ^ (j + 1))
    rw [hm, Int.add_zero, Int.pow_succ, Int.mul_assoc] at hm'
    have hqj : nv q / 2 ^ j = 2 * (nv q / (2 ^ j * 2)) := by
      conv => lhs; rw [← hm']
      rw [Int.mul_ediv_cancel_left _ (by omega)]
    have hbit : nv q / 2 ^ j % 2 = 0 := by rw [hqj]; exact Int.mul_emod_right ..
    have hm3 : nv q % 2 ^ j = 0 := by rw [← hm']; exact Int.mul_emod_right ..
    have hstep := div_two_step (nv a) j
    rw [Int.pow_succ] at hstep he
    refine Ev.step (fun k => gradineref04_Div.l0.eq_2 ..) (Ev.ifp (by omega) ?_)
    have S := ref02_Shl_c (a := r) ⟨hr, by omega⟩ (by omega) 1
    rw [shn_of (by omega) (by omega), show (1 : Int).toNat = 1 from rfl, Int.pow_one] at S
    refine Ev.bind S ?_
    have hbv := bl_nv hb.1
    have br2 : bl (nv r * 2) ≤ 128002 := by
      have := bl_mul (x := nv r) (y := 2) hr0 (by omega)
      have := bl_mono (show nv r ≤ nv b by omega)
      have : bl 2 = 2 := rfl
      omega
    have lr2 := dg_len_bl (nv r * 2)
    -- what is done with the next digit
    have j2 : ∀ z : List Int, Ws z → z.length ≤ 2002 → nv z = nv r * 2 + nv a / 2 ^ j % 2 → Ev (fun k => gradineref04_Div.j2 k a b q z (j : Int)) (dg (nv a / nv b), dg (nv a % nv b)) := by
      intro z hz hlz hnz
      have hb01 : 0 ≤ nv a / 2 ^ j % 2 ∧ nv a / 2 ^ j % 2 < 2 := by omega
      refine Ev.step (fun k => gradineref04_Div.j2.eq_2 ..) (Ev.bind (ref02_Cmp_c (a := z) ⟨hz, by omega⟩ hb) ?_)
      have ew : wrap64 ((j : Int) - 1) = (j : Int) - 1 := w64_id (by omega) (by omega)
      rw [ew]
      have hAj : nv a / 2 ^ j = nv q / 2 ^ j * nv b + nv z := by
        rw [hstep, he, hqj, hnz]
        grind
      by_cases hc : cmpI (nv z) (nv b) ≥ 0
      · have hge : nv b ≤ nv z := by
          unfold cmpI at hc
          split at hc
          · omega
          · omega
        refine Ev.ifp hc ?_
        have D := ref02_Sub_c (a := z) (b := b) ⟨hz, by omega⟩ hb (by omega) (by omega) hge
        refine Ev.bind D ?_
        obtain ⟨t, ht, htw, htl, htn⟩ := ref04_set_c (a := q) ⟨hq, by omega⟩ (by omega) (i := j) (by omega) hbit
        refine Ev.bind ht ?_
        have hz0 := nv_nonneg hz
        have bz := bl_nv hz
        have bzb := bl_mono (show nv z - nv b ≤ nv z by omega)
        have lz := dg_len_bl (nv z - nv b)
        have hq2 : nv t / 2 ^ j = nv q / 2 ^ j + 1 := by
          rw [htn, show nv q + 2 ^ j = nv q + 2 ^ j * 1 by omega, Int.add_mul_ediv_left _ _ (by omega)]
        refine ih (by omega) t (dg (nv z - nv b)) htw (by omega) (dg_Ws _) (by omega) ?_ ?_ ?_
        · rw [htn, Int.add_emod_right]; exact hm3
        · rw [nv_dg (by omega)]; omega
        · rw [nv_dg (by omega), hq2, hAj, Int.add_mul]
          omega
      · have hltz : nv z < nv b := by
          unfold cmpI at hc
          split at hc
          · assumption
          · split at hc <;> omega
        exact Ev.ifn hc (ih (by omega) q z hq hlq hz (by omega) hm3 hltz hAj)
    refine Ev.bindc (ref02_Bit_c ha (by omega)) ?_
    unfold bitI
    rw [Int.toNat_natCast]
    by_cases hbt : nv a / 2 ^ j % 2 = 1
    · refine Ev.ifp (by simp [hbt]) ?_
      obtain ⟨t, ht, htw, htl, htn⟩ := ref04_set_c (a := dg (nv r * 2)) (Wl_dg (by omega)) (by omega) (i := 0) (by omega) (by rw [nv_dg (by omega), Int.pow_zero, Int.ediv_one]; omega)
      refine Ev.bind ht (j2 t htw (by omega) ?_)
      rw [htn, nv_dg (by omega), hbt]
      rfl
    · refine Ev.ifn (by simp [hbt]) (j2 _ (dg_Ws _) (by omega) ?_)
      rw [nv_dg (by omega)]
      omega
theorem ref04_Div_c {a b : List Int} (ha : Wl a) (hb : Wl b) (hla : a.length ≤ 1000) (hlb : b.length ≤ 1000) (hB : 0 < nv b) : Ev (fun k => gradineref04_Div.f k a b) (dg (nv a / nv b), dg (nv a % nv b)) := by
  have hA0 := nv_nonneg ha.1
  have ba := bl_nv ha.1
  have bb := bl_nv hb.1
  have bb0 := bl_pos hB
  have ba0 := bl_nonneg (nv a)
  have no : Ev (fun k => gradineref04_Div.j0 k a b [] false) (dg (nv a / nv b), dg (nv a % nv b)) := by
    refine Ev.step (fun k => gradineref04_Div.j0.eq_2 ..) (Ev.ifn (by decide) ?_)
    refine Ev.bind (ref02_Bits_c ha) (Ev.bind (ref02_Bits_c hb) ?_)
    obtain ⟨j, hj⟩ : ∃ j : Nat, (j : Int) = max 0 (bl (nv a) - bl (nv b) + 1) := ⟨(max 0 (bl (nv a) - bl (nv b) + 1)).toNat, by omega⟩
    have e : mx 0 (wrap64 ((wrap64 (bl (nv a) - bl (nv b))) + 1)) = (j : Int) := by
      rw [w64_id (n := bl (nv a) - bl (nv b)) (by omega) (by omega), w64_id (by omega) (by omega)]
      unfold mx
      generalize bl (nv a) = x at *
      generalize bl (nv b) = y at *
      split <;> omega
    rw [e, w64_id (n := (j : Int) - 1) (by omega) (by omega)]
    have R := ref02_Shr_c ha (n := (j : Int)) (by omega)
    rw [Int.toNat_natCast] at R
    refine Ev.bind R ?_
    have hp := pow_pos j
    have r0 : 0 ≤ nv a / 2 ^ j := Int.ediv_nonneg hA0 (by omega)
    have rle : nv a / 2 ^ j ≤ nv a := Int.ediv_le_self _ hA0
    have br := bl_mono rle
    have lr := dg_len_bl (nv a / 2 ^ j)
    refine ref04_Div_l ha hb (by omega) (by omega) hB j (by omega) [] (dg (nv a / 2 ^ j)) Ws_nil (by simp) (dg_Ws _) (by omega) (by show (0 : Int) % _ = 0; rw [Int.zero_emod]) ?_ ?_
    · rw [nv_dg r0, Int.ediv_lt_iff_lt_mul hp]
      have l1 := bl_lt (nv a)
      have l2 := bl_le hB
      have h3 := Int.mul_le_mul_of_nonneg_right l2 (Int.le_of_lt hp)
      rw [← Int.pow_add] at h3
      have := pow_le_pow (a := (bl (nv a)).toNat) (b := (bl (nv b) - 1).toNat + j) (by omega)
      omega
    · rw [nv_dg r0]
      show _ = (0 : Int) / _ * _ + _
      rw [Int.zero_ediv, Int.zero_mul, Int.zero_add]
  refine Ev.bind (ref02_Size_c ha) ?_
  by_cases h1 : ((dg (nv a)).length : Int) = 1
  · refine Ev.ifp h1 (Ev.bind (ref02_Size_c hb) ?_)
    by_cases h2 : ((dg (nv b)).length : Int) = 1
    · rw [h2]
      obtain ⟨a1, a2, a3, a4⟩ := one_word ha.1 (by omega)
      obtain ⟨b1, b2, b3, b4⟩ := one_word hb.1 (by omega)
      refine Ev.step (fun k => gradineref04_Div.j0.eq_2 ..) (Ev.ifp rfl (Ev.ifp (by omega) (Ev.ifp (by omega) ?_)))
      rw [a2, b2]
      refine Ev.ifn (by omega) ?_
      have q0 : 0 ≤ nv a / nv b := Int.ediv_nonneg hA0 (by omega)
      have q1 : nv a / nv b ≤ nv a := Int.ediv_le_self _ hA0
      have r0 := Int.emod_nonneg (nv a) (show nv b ≠ 0 by omega)
      have r1 := Int.emod_lt_of_pos (nv a) hB
      rw [Int.tdiv_eq_ediv_of_nonneg hA0, Int.tmod_eq_emod_of_nonneg hA0, wu_id q0 (by omega)]
      have T1 := ref02_Trim_c (l := [nv a / nv b]) ⟨Ws_one (by unfold U; omega), by simp⟩
      have T2 := ref02_Trim_c (l := [nv a % nv b]) ⟨Ws_one (by unfold U; omega), by simp⟩
      rw [nv_one] at T1 T2
      exact Ev.bind T1 (Ev.bind T2 (Ev.same rfl))
    · have : (((dg (nv b)).length : Int) == 1) = false := by rw [beq_eq_false_iff_ne]; exact h2
      rw [this]
      exact no
  · exact Ev.ifn h1 no
theorem ref05_Part_c {a g : List Int} (ha : Wl a) (hg : Wl g) (hla : a.length ≤ 1000) (hlg : g.length ≤ 1000) : Ev (fun k => gradineref05_Part.f k a g) (dg (nv a / nv g)) := by
  have hg0 := nv_nonneg hg.1
  refine Ev.bind (ref02_Size_c hg) ?_
  by_cases hz : nv g = 0
  · rw [hz, Int.ediv_zero]
    exact Ev.ifp rfl (Ev.same rfl)
  · refine Ev.ifn (fun k => hz ((dg_len_zero hg0).1 (by omega))) ?_
    have C := ref02_Cmp_c hg (b := [1]) ⟨Ws_one (by unfold U; omega), by decide⟩
    rw [nv_one] at C
    refine Ev.bind C ?_
    by_cases h1 : nv g = 1
    · rw [h1, Int.ediv_one]
      exact Ev.ifp rfl (Ev.bind (ref02_Trim_c ha) (Ev.same rfl))
    · refine Ev.ifn ?_ (Ev.bind (ref04_Div_c ha hg hla hlg (by omega)) (Ev.same rfl))
      unfold cmpI
      split
      · omega
      · split <;> omega

/-! ### The greatest common divisor -/
theorem tz_split {x : Int} (h : 0 < x) : ∃ n : Nat, tz x = n ∧ x = x / 2 ^ n * 2 ^ n ∧ x / 2 ^ n % 2 = 1 := by
  obtain ⟨n, h1, h2, h3⟩ := tz_spec h
  refine ⟨n, h1, ?_, h2⟩
  have key : ∀ j : Nat, j ≤ n → x % 2 ^ j = 0 := by
    intro j
    induction j with
    | zero => intro _; rw [Int.pow_zero, Int.emod_one]
    | succ j ih =>
      intro hj
      rw [Int.pow_succ, mod_split x (pow_pos j), h3 j (by omega), ih (by omega)]
      simp
  have hd := Int.mul_ediv_add_emod x (2 ^ n)
  rw [key n (Nat.le_refl _), Int.add_zero, Int.mul_comm] at hd
  exact hd.symm
theorem ref05_Gcd_l0 (n : Nat) : ∀ x y : Int, y.toNat ≤ n → 0 < x → 0 ≤ y → x < 18446744073709551616 → y < 18446744073709551616 → Ev (fun k => gradineref05_Gcd.l0 k x y) [gc x y] := by
  induction n with
  | zero =>
    intro x y hn h0 h1 h2 h3
    obtain rfl : y = 0 := by omega
    refine Ev.step (fun k => gradineref05_Gcd.l0.eq_2 ..) (Ev.ifn (by omega) (Ev.same ?_))
    rw [gc_zero (by omega)]
  | succ n ih =>
    intro x y hn h0 h1 h2 h3
    refine Ev.step (fun k => gradineref05_Gcd.l0.eq_2 ..) ?_
    by_cases hy : y > 0
    · refine Ev.ifp hy (Ev.ifn (by omega) ?_)
      rw [Int.tmod_eq_emod_of_nonneg (by omega)]
      have r0 := Int.emod_nonneg x (show y ≠ 0 by omega)
      have r1 := Int.emod_lt_of_pos x hy
      rw [← gc_mod (by omega) h1]
      exact ih y (x % y) (by omega) hy r0 h3 (by omega)
    · obtain rfl : y = 0 := by omega
      refine Ev.ifn (by omega) (Ev.same ?_)
      rw [gc_zero (by omega)]
theorem ref05_half {x : Int} (h : 0 < x) (hb : bl x ≤ 64000) : Ev (fun k => gradineref02_Even.f k (dg x)) (tz x) ∧ ∃ n : Nat, tz x = n ∧ n ≤ 64000 ∧ x = x / 2 ^ n * 2 ^ n ∧ x / 2 ^ n % 2 = 1 ∧ 0 < x / 2 ^ n ∧ x / 2 ^ n ≤ x ∧ Ev (fun k => gradineref02_Shr.f k (dg x) (n : Int)) (dg (x / 2 ^ n)) := by
  have w : Wl (dg x) := Wl_dg (by omega)
  have E := ref02_Even_c w
  rw [nv_dg (by omega)] at E
  obtain ⟨n, h1, h2, h3⟩ := tz_split h
  have hlt := tz_lt h
  have S := ref02_Shr_c w (n := (n : Int)) (by omega)
  rw [nv_dg (by omega), Int.toNat_natCast] at S
  have hp := pow_pos n
  have q0 : 0 ≤ x / 2 ^ n := Int.ediv_nonneg (by omega) (by omega)
  have q1 : x / 2 ^ n ≤ x := Int.ediv_le_self _ (by omega)
  exact ⟨E, n, h1, by omega, h2, h3, by omega, q1, S⟩
theorem ref05_Gcd_l1 {c : Int} (hc0 : 0 ≤ c) (hc : c ≤ 64000) (n : Nat) : ∀ x y : Int, (x + y).toNat ≤ n → 0 < x → 0 < y → x % 2 = 1 → y % 2 = 1 → bl x ≤ 64000 → bl y ≤ 64000 → Ev (fun k => gradineref05_Gcd.l1 k c (dg x) (dg y)) (dg (gc x y * 2 ^ c.toNat)) := by
  induction n with
  | zero => intro x y hn h0 h1; omega
  | succ n ih =>
    intro x y hn h0 h1 ho1 ho2 hb1 hb2
    have wx : Wl (dg x) := Wl_dg (by omega)
    have wy : Wl (dg y) := Wl_dg (by omega)
    have lx := dg_len_bl x
    have ly := dg_len_bl y
    have C := ref02_Cmp_c wx wy
    rw [nv_dg (by omega), nv_dg (by omega)] at C
    refine Ev.step (fun k => gradineref05_Gcd.l1.eq_2 ..) (Ev.bind C ?_)
    -- one less by the other, halved
    have more : ∀ u v : Int, 0 < u → 0 < v → u % 2 = 1 → v % 2 = 1 → bl u ≤ 64000 → bl v ≤ 64000 → v < u → (u + v).toNat ≤ n + 1 →
        Ev (fun k => (gradineref02_Sub.f k (dg u) (dg v)).bind fun t => (gradineref02_Even.f k t).bind fun s => (gradineref02_Shr.f k t s).bind fun z => gradineref05_Gcd.l1 k c z (dg v)) (dg (gc u v * 2 ^ c.toNat)) := by
      intro u v hu hv hou hov hbu hbv hlt hs
      have wu : Wl (dg u) := Wl_dg (by omega)
      have wv : Wl (dg v) := Wl_dg (by omega)
      have lu := dg_len_bl u
      have lv := dg_len_bl v
      have D := ref02_Sub_c wu wv (by omega) (by omega) (by rw [nv_dg (by omega), nv_dg (by omega)]; omega)
      rw [nv_dg (by omega), nv_dg (by omega)] at D
      have bd := bl_mono (show u - v ≤ u by omega)
      obtain ⟨E, m, hm1, hm2, hm3, hm4, hm5, hm6, S⟩ := ref05_half (x := u - v) (by omega) (by omega)
      rw [hm1] at E
      refine Ev.bind D (Ev.bind E (Ev.bind S ?_))
      have bq := bl_mono hm6
      have g1 : gc u v = gc ((u - v) / 2 ^ m) v := by
        rw [← gc_sub (by omega) (show v ≤ u by omega)]
        conv => lhs; rw [hm3]
        exact gc_odd (by omega) (by omega) hov m
      rw [g1]
      exact ih _ v (by omega) hm5 hv hm4 hov (by omega) hbv
    by_cases he : x = y
    · refine Ev.ifp (by unfold cmpI; rw [if_neg (by omega), if_neg (by omega)]) ?_
      have S := ref02_Shl_c wx (by omega) c
      rw [nv_dg (by omega), shn_of hc0 (by omega)] at S
      refine Ev.bind S (Ev.same ?_)
      rw [← he, gc_self (by omega)]
    · by_cases hlt : x < y
      · refine Ev.ifn (by unfold cmpI; rw [if_pos hlt]; omega) (Ev.ifp (by unfold cmpI; rw [if_pos hlt]; omega) ?_)
        rw [gc_comm]
        exact more y x h1 h0 ho2 ho1 hb2 hb1 hlt (by omega)
      · have hcm : cmpI x y = 1 := by unfold cmpI; rw [if_neg hlt, if_pos (by omega)]
        refine Ev.ifn (by rw [hcm]; omega) (Ev.ifn (by rw [hcm]; omega) ?_)
        exact more x y h0 h1 ho1 ho2 hb1 hb2 (by omega) (by omega)
theorem ref05_Gcd_c {a b : List Int} (ha : Wl a) (hb : Wl b) (hla : a.length ≤ 1000) (hlb : b.length ≤ 1000) : Ev (fun k => gradineref05_Gcd.f k a b) (dg (gc (nv a) (nv b))) := by
  have hA0 := nv_nonneg ha.1
  have hB0 := nv_nonneg hb.1
  have ba := bl_nv ha.1
  have bb := bl_nv hb.1
  refine Ev.bind (ref02_Size_c ha) ?_
  by_cases hza : nv a = 0
  · refine Ev.ifp (by rw [hza]; rfl) (Ev.bind (ref02_Trim_c hb) (Ev.same ?_))
    rw [hza, gc_comm, gc_zero hB0]
  · refine Ev.ifn (fun k => hza ((dg_len_zero hA0).1 (by omega))) (Ev.bind (ref02_Size_c hb) ?_)
    by_cases hzb : nv b = 0
    · refine Ev.ifp (by rw [hzb]; rfl) (Ev.bind (ref02_Trim_c ha) (Ev.same ?_))
      rw [hzb, gc_zero hA0]
    · refine Ev.ifn (fun k => hzb ((dg_len_zero hB0).1 (by omega))) (Ev.bind (ref02_Size_c ha) ?_)
      have long : Ev (fun k => gradineref05_Gcd.j0 k a b false) (dg (gc (nv a) (nv b))) := by
        refine Ev.step (fun k => gradineref05_Gcd.j0.eq_2 ..) (Ev.ifn (by decide) ?_)
        obtain ⟨n, n1, n2, n3⟩ := tz_split (show 0 < nv a by omega)
        obtain ⟨m, m1, m2, m3⟩ := tz_split (show 0 < nv b by omega)
        have tn := tz_lt (show 0 < nv a by omega)
        have tm := tz_lt (show 0 < nv b by omega)
        have Ea := ref02_Even_c ha
        have Eb := ref02_Even_c hb
        rw [n1] at Ea tn
        rw [m1] at Eb tm
        have Sa := ref02_Shr_c ha (n := (n : Int)) (by omega)
        have Sb := ref02_Shr_c hb (n := (m : Int)) (by omega)
        rw [Int.toNat_natCast] at Sa Sb
        refine Ev.bind Ea (Ev.bind Eb (Ev.bind Ea (Ev.bind Sa (Ev.bind Eb (Ev.bind Sb ?_)))))
        have qa : 0 ≤ nv a / 2 ^ n := Int.ediv_nonneg hA0 (by have := pow_pos n; omega)
        have qb : 0 ≤ nv b / 2 ^ m := Int.ediv_nonneg hB0 (by have := pow_pos m; omega)
        have qa1 : nv a / 2 ^ n ≤ nv a := Int.ediv_le_self _ hA0
        have qb1 : nv b / 2 ^ m ≤ nv b := Int.ediv_le_self _ hB0
        have ba1 := bl_mono qa1
        have bb1 := bl_mono qb1
        have hmn : mn (n : Int) (m : Int) = ((min n m : Nat) : Int) := by unfold mn; split <;> omega
        rw [hmn]
        have L := ref05_Gcd_l1 (c := ((min n m : Nat) : Int)) (by omega) (by omega) (nv a / 2 ^ n + nv b / 2 ^ m).toNat (nv a / 2 ^ n) (nv b / 2 ^ m) (Nat.le_refl _) (by omega) (by omega) n3 m3 (by omega) (by omega)
        rw [Int.toNat_natCast, ← gc_halves qa qb n3 m3 n m, ← n2, ← m2] at L
        exact L
      by_cases h1 : ((dg (nv a)).length : Int) = 1
      · refine Ev.ifp h1 (Ev.bind (ref02_Size_c hb) ?_)
        by_cases h2 : ((dg (nv b)).length : Int) = 1
        · rw [h2]
          obtain ⟨a1, a2, a3, a4⟩ := one_word ha.1 (by omega)
          obtain ⟨b1, b2, b3, b4⟩ := one_word hb.1 (by omega)
          refine Ev.step (fun k => gradineref05_Gcd.j0.eq_2 ..) (Ev.ifp rfl (Ev.ifp (by omega) (Ev.ifp (by omega) ?_)))
          rw [a2, b2]
          have g1 := gc_pos (a := nv a) (b := nv b) (.inl a3)
          have g2 := gc_split hA0 hB0
          have g3 : gc (nv a) (nv b) ≤ nv a := by
            have hq : 0 < nv a / gc (nv a) (nv b) := by
              rcases (show nv a / gc (nv a) (nv b) ≤ 0 ∨ 0 < nv a / gc (nv a) (nv b) by omega) with h | h
              · have := Int.ediv_nonneg hA0 (show 0 ≤ gc (nv a) (nv b) by omega)
                rw [show nv a / gc (nv a) (nv b) = 0 by omega, Int.zero_mul] at g2
                omega
              · exact h
            have := Int.mul_le_mul_of_nonneg_right (show 1 ≤ nv a / gc (nv a) (nv b) by omega) (Int.le_of_lt g1)
            rw [g2.1] at this
            omega
          have L := ref05_Gcd_l0 (nv b).toNat (nv a) (nv b) (Nat.le_refl _) a3 (by omega) a4 b4
          rw [dg_pos g1, dg_nil (by omega), Int.emod_eq_of_lt (by omega) (by omega)]
          exact L
        · have : (((dg (nv b)).length : Int) == 1) = false := by rw [beq_eq_false_iff_ne]; exact h2
          rw [this]
          exact long
      · exact Ev.ifn h1 long
end Go.Proofs.Ytldcgclbgbhffaa.M
