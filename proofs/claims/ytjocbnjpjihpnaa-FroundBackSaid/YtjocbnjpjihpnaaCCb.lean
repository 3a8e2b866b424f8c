/- What the functions answer, over plain numbers. -/
import Derived.Test.YtjocbnjpjihpnaaCCa
import Derived.Test.YtjocbnjpjihpnaaBfround
import Derived.Test.YtjocbnjpjihpnaaBgradineref10
import Derived.Test.YtjocbnjpjihpnaaFgradinelaw10same
section
namespace Go.Proofs.Ytjocbnjpjihpnaa.M
open Go.RowKit Go.Proofs.YtjocbnjpjihpnaaW.PrintWords Go.Proofs.YtjocbnjpjihpnaaW.PrintLast Go.Proofs.YtjocbnjpjihpnaaW.PrintMore
set_option linter.unusedVariables false

/-- Twice the quotient, one more if something is left. -/
def qv (N D : Int) : Int := if N % D = 0 then 2 * (N / D) else 2 * (N / D) + 1
theorem qv_ge (N D : Int) : 2 * (N / D) ≤ qv N D ∧ qv N D ≤ 2 * (N / D) + 1 := by unfold qv; split <;> omega
theorem qv_step {N D c : Int} (hD : 0 < D) (hq : 9007199254740992 ≤ N / D) : Rd (qv N D) c = Rd (qv (N * 2) D) (c - 1) := by
  have hs : 0 < qv N D := by have := qv_ge N D; omega
  rw [← Rd_scale hs c 1, Int.pow_one, show c - ((1 : Nat) : Int) = c - 1 from rfl]
  have d1 := Int.mul_ediv_add_emod N D
  have d2 := Int.emod_nonneg N (show D ≠ 0 by omega)
  have d3 := Int.emod_lt_of_pos N hD
  have key : N * 2 / D = 2 * (N / D) + (N % D * 2) / D ∧ (N * 2) % D = (N % D * 2) % D := by
    have e : N * 2 = N % D * 2 + D * (2 * (N / D)) := by
      have : D * (2 * (N / D)) = 2 * (D * (N / D)) := by rw [← Int.mul_assoc, Int.mul_comm D 2, Int.mul_assoc]
      omega
    constructor
    · rw [e, Int.add_mul_ediv_left _ _ (by omega)]; omega
    · rw [e, Int.add_mul_emod_self_left]
  have r1 : (N % D * 2) / D = 0 ∧ (N % D * 2) % D = N % D * 2 ∨ (N % D * 2) / D = 1 ∧ (N % D * 2) % D = N % D * 2 - D ∧ N % D ≠ 0 := by
    rcases Int.lt_or_le (N % D * 2) D with h | h
    · exact .inl ⟨Int.ediv_eq_zero_of_lt (by omega) h, Int.emod_eq_of_lt (by omega) h⟩
    · have e2 : N % D * 2 = (N % D * 2 - D) + D * 1 := by omega
      refine .inr ⟨?_, ?_, by omega⟩
      · rw [e2, Int.add_mul_ediv_left _ _ (by omega), Int.ediv_eq_zero_of_lt (by omega) (by omega)]; rfl
      · rw [e2, Int.add_mul_emod_self_left, Int.emod_eq_of_lt (by omega) (by omega)]; omega
  have hX : 18014398509481984 ≤ qv N D := by have := qv_ge N D; omega
  have hY : 0 < qv (N * 2) D := by have := qv_ge (N * 2) D; rw [key.1] at this; rcases r1 with h | h <;> omega
  have c1 : qv N D * 2 / 2 ^ 2 = qv (N * 2) D / 2 ^ 2 ∧ (qv N D * 2 % 2 ^ 2 = 0 ↔ qv (N * 2) D % 2 ^ 2 = 0) := by
    unfold qv
    rw [key.1, key.2]
    rw [show ((2 : Int) ^ 2) = 4 from rfl]
    generalize N / D = q at *
    generalize N % D = r at *
    by_cases hr : r = 0
    · subst hr
      rcases r1 with ⟨k1, k2⟩ | ⟨k1, k2, k3⟩
      · rw [k1, k2, if_pos rfl, if_pos (by omega)]; omega
      · exact absurd rfl k3
    · rw [if_neg hr]
      rcases r1 with ⟨k1, k2⟩ | ⟨k1, k2, k3⟩
      · rw [k1, k2, if_neg (by omega)]; omega
      · rw [k1, k2]; split <;> omega
  refine Rd_cell (g := 2) (by omega) hY c1.1 c1.2 ?_
  have := bl_ge' (x := qv N D * 2) (n := 55) (by omega)
  unfold un
  omega
theorem qv_steps (j : Nat) : ∀ {N D c : Int}, 0 < D → 9007199254740992 ≤ N / D → Rd (qv N D) c = Rd (qv (N * 2 ^ j) D) (c - j) := by
  induction j with
  | zero => intro N D c hD hq; rw [Int.pow_zero, Int.mul_one, show c - ((0 : Nat) : Int) = c by omega]
  | succ j ih =>
    intro N D c hD hq
    have e : N * 2 ^ (j + 1) = N * 2 * 2 ^ j := by rw [Int.pow_succ, Int.mul_comm (2 ^ j), Int.mul_assoc]
    have d1 := Int.mul_ediv_add_emod N D
    have d2 := Int.emod_nonneg N (show D ≠ 0 by omega)
    have h2 : 9007199254740992 ≤ N * 2 / D := by
      have h3 : N / D * D ≤ N := by rw [Int.mul_comm]; omega
      have h4 : N / D ≤ N * 2 / D := (Int.le_ediv_iff_mul_le hD).2 (by
        have : 0 ≤ N / D * D := Int.mul_nonneg (by omega) (by omega)
        omega)
      omega
    rw [e, qv_step hD hq, ih hD h2]
    congr 1
    omega
/-- The double of a number: a quotient's, by its bits. -/
def fq (N D : Int) : Int :=
  if bl N - bl D < -1200 then 0 else if bl N - bl D > 1100 then INF
  else Rd (qv (N * 2 ^ (max 0 (64 - (bl N - bl D))).toNat) D) (-(max 0 (64 - (bl N - bl D))) - 1)
theorem pow_bl {N : Int} (h : 0 < N) : ∃ n : Nat, bl N = n + 1 ∧ 2 ^ n ≤ N ∧ N < 2 ^ (n + 1) := by
  have h1 := bl_pos h
  refine ⟨(bl N - 1).toNat, by omega, ?_, ?_⟩
  · exact bl_le h
  · have := bl_lt N
    have e : ((bl N - 1).toNat + 1) = (bl N).toNat := by omega
    rw [e]; exact this
/-- Enough digits of a quotient. -/
theorem quot_big {N D : Int} {up g : Nat} (hN : 0 < N) (hD : 0 < D) (h : bl D + g + 1 ≤ bl N + up) : 2 ^ g ≤ N * 2 ^ up / D := by
  obtain ⟨n, n1, n2, n3⟩ := pow_bl hN
  obtain ⟨d, d1, d2, d3⟩ := pow_bl hD
  refine (Int.le_ediv_iff_mul_le hD).2 ?_
  have k1 : (2 : Int) ^ g * D ≤ 2 ^ g * 2 ^ (d + 1) := Int.mul_le_mul_of_nonneg_left (by omega) (by have := pow_pos g; omega)
  have k2 : (2 : Int) ^ n * 2 ^ up ≤ N * 2 ^ up := Int.mul_le_mul_of_nonneg_right n2 (by have := pow_pos up; omega)
  rw [← Int.pow_add] at k1 k2
  have k3 := pow_le_pow (a := g + (d + 1)) (b := n + up) (by omega)
  omega
theorem fq_far {N D : Int} (hN : 0 < N) (hD : 0 < D) (h0 : -1200 ≤ bl N - bl D) (h1 : bl N - bl D ≤ 1200) :
    fq N D = Rd (qv (N * 2 ^ (max (70 - (bl N - bl D)) 0).toNat) D) (-(max (70 - (bl N - bl D)) 0) - 1) := by
  unfold fq
  rw [if_neg (by omega)]
  by_cases h : bl N - bl D > 1100
  · rw [if_pos h, show max (70 - (bl N - bl D)) 0 = 0 by omega, show (0 : Int).toNat = 0 from rfl, Int.pow_zero, Int.mul_one]
    have q := quot_big (up := 0) (g := 1099) hN hD (by omega)
    rw [Int.pow_zero, Int.mul_one] at q
    have k := (qv_ge N D).1
    have k2 : (2 : Int) ^ 1099 ≤ qv N D := by have := pow_pos 1099; omega
    have hb := bl_ge' k2
    have hp : 0 < qv N D := by have := pow_pos 1099; omega
    unfold Rd
    rw [if_neg (by omega), if_pos (by unfold un; omega)]
  · rw [if_neg h]
    have q := quot_big (up := (max 0 (64 - (bl N - bl D))).toNat) (g := 53) hN hD (by omega)
    generalize hu : (max 0 (64 - (bl N - bl D))).toNat = up at *
    rw [qv_steps ((max (70 - (bl N - bl D)) 0).toNat - up) hD q, Int.mul_assoc, ← Int.pow_add, show up + ((max (70 - (bl N - bl D)) 0).toNat - up) = (max (70 - (bl N - bl D)) 0).toNat by omega]
    congr 1
    omega
theorem tz_mod {x : Int} (h : 0 < x) (i : Nat) : x % 2 ^ i = 0 ↔ (i : Int) ≤ tz x := by
  obtain ⟨n, h1, h2, h3⟩ := tz_spec h
  have key : ∀ j : Nat, j ≤ n → x % 2 ^ j = 0 := by
    intro j
    induction j with
    | zero => intro _; rw [Int.pow_zero, Int.emod_one]
    | succ j ih =>
      intro hj
      rw [Int.pow_succ, mod_split x (pow_pos j), h3 j (by omega), ih (by omega)]
      simp
  rw [h1]
  constructor
  · intro k
    rcases Nat.lt_or_ge n i with hlt | hge
    · exfalso
      have e : (2 : Int) ^ i = 2 ^ n * (2 * 2 ^ (i - n - 1)) := by
        rw [← Int.pow_succ', ← Int.pow_add]; congr 1; omega
      rw [e] at k
      have h5 := mod_split x (D := 2 * 2 ^ (i - n - 1)) (pow_pos n)
      rw [k, key n (Nat.le_refl _)] at h5
      have h6 : x / 2 ^ n % (2 * 2 ^ (i - n - 1)) = 0 := by
        have hp := pow_pos n
        have : (2 : Int) ^ n * (x / 2 ^ n % (2 * 2 ^ (i - n - 1))) = 0 := by omega
        rcases Int.mul_eq_zero.1 this with h7 | h7 <;> omega
      have h7 := Int.emod_emod_of_dvd (x / 2 ^ n) (show (2 : Int) ∣ 2 * 2 ^ (i - n - 1) from ⟨_, rfl⟩)
      rw [h6] at h7
      omega
    · omega
  · intro k
    exact key i (by omega)
end Go.Proofs.Ytjocbnjpjihpnaa.M
end
section
namespace Go.Proofs.Ytjocbnjpjihpnaa.M
open Go.RowKit Go.Proofs.Ytjocbnjpjihpnaa.P Go.Proofs.YtjocbnjpjihpnaaW.PrintWords Go.Proofs.YtjocbnjpjihpnaaW.PrintLast Go.Proofs.YtjocbnjpjihpnaaW.PrintMore
set_option linter.unusedVariables false

theorem Rd_ce {N e : Int} (hN : 0 ≤ N) (hb : bl N ≤ 10000) (h0 : -1099511627777 ≤ e) (h1 : e ≤ 1099511627776) : Rd N (ce e) = Rd N e := by
  have hE := ce_range e
  rcases (show -1099511627776 ≤ e ∨ e = -1099511627777 by omega) with h | h
  · rw [ce_id h h1]
  · have : ce e = -1099511627776 := by rw [h]; decide
    rw [Rd_none hN (by omega), Rd_none hN (by omega)]
theorem fround_Of_j {l : List Int} (neg : Bool) (hl : Wl l) (hn : l.length ≤ 150) {e : Int} (he0 : -1099511627777 ≤ e) (he1 : e ≤ 1099511627776) : Ev (fun k => fround_Of.j0 k neg l e) (sgn neg (Rd (nv l) e)) := by
  have h0 := nv_nonneg hl.1
  have hb := bl_nv hl.1
  refine Ev.step (fun k => fround_Of.j0.eq_2 ..) (Ev.bind (nat_Bits_c hl) ?_)
  have hbN : bl (nv l) ≤ 10000 := by omega
  have hb0 := bl_nonneg (nv l)
  by_cases h1 : bl (nv l) ≤ 64
  · refine Ev.ifp h1 (Ev.bind (nat_Word_c hl) ?_)
    have hw : nv l < 18446744073709551616 := by
      have h2 := bl_lt (nv l)
      have h3 := pow_le_pow (a := (bl (nv l)).toNat) (b := 64) (by omega)
      have h4 : (2 : Int) ^ 64 = 18446744073709551616 := rfl
      omega
    rw [if_pos hw]
    refine Ev.bind (fround_Word_c neg (m := nv l) (e := e) ⟨h0, hw⟩) (Ev.same ?_)
    rw [Rd_ce h0 hbN he0 he1]
  · refine Ev.ifn h1 ?_
    have S := nat_Shr_c hl (n := un (nv l) e - e) (by unfold un; omega)
    have B := nat_Bit_c hl (i := un (nv l) e - e - 1) (by unfold un; omega)
    have T := nat_Even_c hl
    generalize nv l = N at *
    have hp : 0 < N := by
      rcases (show N = 0 ∨ 0 < N by omega) with h | h
      · rw [h, bl_zero] at h1; omega
      · exact h
    have hu : un N e = max (bl N + e - 53) (-1074) := rfl
    have eU : mx (wrap64 ((wrap64 (bl N + e)) - 53)) (-1074) = un N e := by
      rw [w64_id (n := bl N + e) (by omega) (by omega), w64_id (n := bl N + e - 53) (by omega) (by omega), hu]
      unfold mx; split <;> omega
    rw [eU]
    by_cases h2 : un N e > 971
    · refine Ev.ifp h2 (Ev.bindc (fbits_Inf_c neg) (Ev.same ?_))
      rw [Rd_over hp h2]
    · refine Ev.ifn h2 ?_
      rw [w64_id (n := un N e - e) (by omega) (by omega), w64_id (n := un N e - e - 1) (by omega) (by omega)]
      have hq := un_q (e := e) hp
      have hr := ru_units (e := e) hp
      obtain ⟨d, hd⟩ : ∃ d : Nat, un N e - e = d + 1 := ⟨(un N e - e - 1).toNat, by omega⟩
      unfold ru at hr
      rw [Rd_pos hp (by omega)]
      unfold ru
      rw [show (e - un N e).toNat = 0 by omega, Int.pow_zero, Int.mul_one, show (un N e - e).toNat = d + 1 by omega] at hq hr ⊢
      have d1 : un N e - e - 1 = (d : Int) := by omega
      have d2 : un N e - e = ((d + 1 : Nat) : Int) := by omega
      rw [d1] at B ⊢
      rw [d2] at S ⊢
      rw [Int.toNat_natCast] at S
      refine Ev.bind S ?_
      have bq : bl (N / 2 ^ (d + 1)) ≤ 53 := bl_le_of (n := 53) (Int.lt_of_lt_of_le hq.2.1 (by decide))
      have W := nat_Word_c (l := dg (N / 2 ^ (d + 1))) (Wl_dg (by omega))
      rw [nv_dg hq.1, if_pos (by omega)] at W
      refine Ev.bind W (Ev.bindc B (Ev.bind T ?_))
      refine Ev.bindc (fround_even_c hq.1 (by omega) _ _) ?_
      have hpd := pow_pos d
      have hm := mod_split N (G := 2 ^ d) (D := 2) hpd
      have e2 : (2 : Int) ^ (d + 1) = 2 ^ d * 2 := Int.pow_succ ..
      have hz : N % 2 ^ d = 0 ↔ (d : Int) ≤ tz N := tz_mod hp d
      have hlt := Int.emod_lt_of_pos N hpd
      have hge := Int.emod_nonneg N (show (2 : Int) ^ d ≠ 0 by omega)
      have key : rnd N (d + 1) = if bitI N (d : Int) = true ∧ (decide (tz N < (d : Int)) = true ∨ N / 2 ^ (d + 1) % 2 = 1) then N / 2 ^ (d + 1) + 1 else N / 2 ^ (d + 1) := by
        unfold rnd bitI
        rw [Int.toNat_natCast]
        rw [e2] at *
        rw [hm]
        have hbit : N / 2 ^ d % 2 = 0 ∨ N / 2 ^ d % 2 = 1 := by omega
        generalize N / (2 ^ d * 2) = q at *
        generalize N % 2 ^ d = r at *
        generalize tz N = t at *
        generalize (2 : Int) ^ d = G at *
        rcases hbit with hbit | hbit
        · rw [hbit, if_neg (by omega), if_neg (by simp)]
        · rw [hbit]
          by_cases hr0 : r = 0
          · have := hz.1 hr0
            by_cases ho : q % 2 = 1
            · rw [if_pos (by right; omega), if_pos (by simp [ho])]
            · rw [if_neg (by omega), if_neg (by simp [ho]; omega)]
          · have : ¬ (d : Int) ≤ t := fun k => hr0 (hz.2 k)
            rw [if_pos (by left; omega), if_pos (by simp; omega)]
      rw [← key]
      exact Ev.bind (fround_made_c neg hr.1 hr.2.1 (un_ge N e) (by omega) hr.2.2) (Ev.same rfl)
theorem fround_Of_c {l : List Int} (neg : Bool) (hl : Wl l) (hn : l.length ≤ 100) (e : Int) (more : Bool) : Ev (fun k => fround_Of.f k neg l e more) (sgn neg (if more then Rd (2 * nv l + 1) (ce e - 1) else Rd (nv l) (ce e))) := by
  have hE := ce_range e
  have eE : mn (mx e (-1099511627776)) 1099511627776 = ce e := rfl
  cases more
  · refine Ev.ifn (by decide) ?_
    rw [eE]
    exact Ev.eqr (fround_Of_j neg hl (by omega) (by omega) (by omega)) rfl
  · refine Ev.ifp rfl ?_
    rw [eE]
    have h0 := nv_nonneg hl.1
    have hb := bl_nv hl.1
    have S := nat_Shl_c hl (by omega) 1
    rw [shn_of (by omega) (by omega), show (1 : Int).toNat = 1 from rfl, Int.pow_one] at S
    refine Ev.bind S ?_
    generalize nv l = N at *
    have b1 : bl (N * 2) ≤ 6402 := by
      have := bl_mul (x := N) (y := 2) h0 (by omega)
      have : bl 2 = 2 := rfl
      omega
    have lN := dg_len_bl (N * 2)
    refine Ev.bind (nat_Of_c (x := 1) (by unfold U; omega)) ?_
    have A := nat_Add_c (a := dg (N * 2)) (b := dg 1) (Wl_dg (by omega)) (Wl_dg (by decide)) (by omega) (by decide)
    rw [nv_dg (by omega), nv_dg (by omega), show N * 2 + 1 = 2 * N + 1 by omega] at A
    refine Ev.bind A ?_
    have b2 : bl (2 * N + 1) ≤ 6500 := by
      have a1 := bl_lt (N * 2)
      have a2 := bl_nonneg (N * 2)
      have : bl (2 * N + 1) ≤ ((bl (N * 2)).toNat + 1 : Nat) := bl_le_of (by rw [Int.pow_succ]; omega)
      omega
    have l2 := dg_len_bl (2 * N + 1)
    have J := fround_Of_j neg (l := dg (2 * N + 1)) (Wl_dg (by omega)) (by omega) (e := ce e - 1) (by omega) (by omega)
    rw [nv_dg (by omega)] at J
    exact Ev.eqr J rfl
end Go.Proofs.Ytjocbnjpjihpnaa.M
end
section
namespace Go.Proofs.Ytjocbnjpjihpnaa.M
open Go.RowKit Go.Proofs.YtjocbnjpjihpnaaW.PrintWords Go.Proofs.YtjocbnjpjihpnaaW.PrintLast Go.Proofs.YtjocbnjpjihpnaaW.PrintMore
set_option linter.unusedVariables false

/-- Twice the quotient, one more if something is left, stands to even numbers as twice the fraction itself does. -/
theorem qv_even {N D h : Int} (hD : 0 < D) : (qv N D < 2 * h ↔ 2 * N < 2 * h * D) ∧ (qv N D = 2 * h ↔ 2 * N = 2 * h * D) := by
  have d1 := Int.mul_ediv_add_emod N D
  have d2 := Int.emod_nonneg N (show D ≠ 0 by omega)
  have d3 := Int.emod_lt_of_pos N hD
  have e : 2 * h * D = 2 * (D * h) := by rw [Int.mul_assoc, Int.mul_comm h D]
  rw [e]
  have k1 : D * (N / D) < D * h ↔ N / D < h := ⟨fun q => Int.lt_of_mul_lt_mul_left q (by omega), fun q => Int.mul_lt_mul_of_pos_left q hD⟩
  have k2 : N / D < h → D * (N / D) + D ≤ D * h := fun q => by
    have := Int.mul_le_mul_of_nonneg_left (show N / D + 1 ≤ h by omega) (show 0 ≤ D by omega)
    rw [Int.mul_add, Int.mul_one] at this
    exact this
  have k3 : h < N / D → D * h + D ≤ D * (N / D) := fun q => by
    have := Int.mul_le_mul_of_nonneg_left (show h + 1 ≤ N / D by omega) (show 0 ≤ D by omega)
    rw [Int.mul_add, Int.mul_one] at this
    exact this
  have k4 : N / D = h → D * (N / D) = D * h := fun q => by rw [q]
  unfold qv
  rcases Int.lt_trichotomy (N / D) h with c | c | c
  · have := k2 c
    split <;> constructor <;> constructor <;> intro _ <;> omega
  · have := k4 c
    split <;> constructor <;> constructor <;> intro _ <;> omega
  · have := k3 c
    split <;> constructor <;> constructor <;> intro _ <;> omega
/-- The rounded number is as near as any other; of two that are as near it is even. -/
theorem rnd_nearest {N D : Int} {d : Nat} (hD : 0 < D) (hd : 2 ≤ d) (m : Int) :
    ab (2 * N - rnd (qv N D) d * 2 ^ d * D) ≤ ab (2 * N - m * 2 ^ d * D) ∧ (ab (2 * N - rnd (qv N D) d * 2 ^ d * D) = ab (2 * N - m * 2 ^ d * D) → m = rnd (qv N D) d ∨ rnd (qv N D) d % 2 = 0) := by
  obtain ⟨j, rfl⟩ : ∃ j : Nat, d = j + 2 := ⟨d - 2, by omega⟩
  have hp := pow_pos j
  have g : (2 : Int) ^ (j + 2) = 4 * 2 ^ j := by rw [Int.pow_add, Int.mul_comm]; rfl
  have s1 := Int.mul_ediv_add_emod (qv N D) (2 ^ (j + 2))
  have s2 := Int.emod_nonneg (qv N D) (show (2 : Int) ^ (j + 2) ≠ 0 by omega)
  have s3 := Int.emod_lt_of_pos (qv N D) (show (0 : Int) < 2 ^ (j + 2) by omega)
  unfold rnd
  generalize hk : qv N D / 2 ^ (j + 2) = k at *
  generalize hr : qv N D % 2 ^ (j + 2) = r at *
  have a1 := qv_even (N := N) (h := 2 * 2 ^ j * k) hD
  have a2 := qv_even (N := N) (h := 2 * 2 ^ j * k + 2 ^ j) hD
  have a3 := qv_even (N := N) (h := 2 * 2 ^ j * k + 2 * 2 ^ j) hD
  have W0 : 0 < 2 * 2 ^ j * D := Int.mul_pos (by omega) hD
  have e1 : 2 * (2 * 2 ^ j * k) * D = 2 * (k * (2 * 2 ^ j * D)) := by ac_rfl
  have e2 : 2 * (2 * 2 ^ j * k + 2 ^ j) * D = 2 * (k * (2 * 2 ^ j * D)) + 2 * 2 ^ j * D := by rw [Int.mul_add, Int.add_mul, e1]
  have e3 : 2 * (2 * 2 ^ j * k + 2 * 2 ^ j) * D = 2 * (k * (2 * 2 ^ j * D)) + 2 * (2 * 2 ^ j * D) := by rw [Int.mul_add, Int.add_mul, e1]; congr 1; ac_rfl
  have e0 : ∀ x : Int, x * 2 ^ (j + 2) * D = 2 * (x * (2 * 2 ^ j * D)) := fun x => by
    rw [g, show (4 : Int) * 2 ^ j = 2 * (2 * 2 ^ j) by omega]; ac_rfl
  rw [e1] at a1
  rw [e2] at a2
  rw [e3] at a3
  rw [e0, e0]
  generalize 2 * 2 ^ j * D = W at *
  have f1 : (k + 1) * W = k * W + W := by rw [Int.add_mul, Int.one_mul]
  have f2 : m ≤ k - 1 → m * W ≤ k * W - W := fun q => by
    have := Int.mul_le_mul_of_nonneg_right q (show 0 ≤ W by omega)
    rw [Int.sub_mul, Int.one_mul] at this
    exact this
  have f3 : k + 2 ≤ m → k * W + 2 * W ≤ m * W := fun q => by
    have := Int.mul_le_mul_of_nonneg_right q (show 0 ≤ W by omega)
    rw [Int.add_mul] at this
    exact this
  have f4 : m = k → m * W = k * W := fun q => by rw [q]
  have f5 : m = k + 1 → m * W = k * W + W := fun q => by rw [q, f1]
  have s1' : 4 * (2 ^ j * k) + r = qv N D := by rw [← s1, g, Int.mul_assoc]
  have t1 : 2 * (2 * 2 ^ j * k) = 4 * (2 ^ j * k) := by rw [Int.mul_assoc]; omega
  have t2 : 2 * (2 * 2 ^ j * k + 2 ^ j) = 4 * (2 ^ j * k) + 2 * 2 ^ j := by rw [Int.mul_add, t1]
  have t3 : 2 * (2 * 2 ^ j * k + 2 * 2 ^ j) = 4 * (2 ^ j * k) + 4 * 2 ^ j := by rw [Int.mul_add, t1]; omega
  rw [t1] at a1
  rw [t2] at a2
  rw [t3] at a3
  rw [g] at s3 ⊢
  generalize (2 : Int) ^ j * k = p at *
  generalize (2 : Int) ^ j = E at *
  generalize qv N D = Q at *
  have b1 : 2 * (k * W) ≤ 2 * N := by
    have := a1.1
    have : ¬ 2 * N < 2 * (k * W) := fun q => by have := this.2 q; omega
    omega
  have b3 : 2 * N < 2 * (k * W) + 2 * W := a3.1.1 (by omega)
  have cases5 : m ≤ k - 1 ∨ m = k ∨ m = k + 1 ∨ k + 2 ≤ m := by omega
  by_cases h : 2 * r > 4 * E ∨ (2 * r = 4 * E ∧ k % 2 = 1)
  · rw [if_pos h]
    have b2 : 2 * (k * W) + W ≤ 2 * N := by
      have : ¬ 2 * N < 2 * (k * W) + W := fun q => by have := a2.1.2 q; omega
      omega
    have b4 : 2 * N = 2 * (k * W) + W → k % 2 = 1 := fun q => by have := a2.2.2 q; omega
    rw [f1]
    generalize k * W = kW at *
    generalize m * W = mW at *
    unfold ab
    rcases cases5 with c | c | c | c
    · have := f2 c; constructor
      · split <;> split <;> omega
      · intro q; split at q <;> split at q <;> omega
    · have := f4 c; constructor
      · split <;> split <;> omega
      · intro q; split at q <;> split at q <;> omega
    · exact ⟨by rw [f5 c]; omega, fun _ => .inl c⟩
    · have := f3 c; constructor
      · split <;> split <;> omega
      · intro q; split at q <;> split at q <;> omega
  · rw [if_neg h]
    have b2 : 2 * N ≤ 2 * (k * W) + W := by
      by_cases q : Q < 4 * p + 2 * E
      · have := a2.1.1 q; omega
      · have := a2.2.1 (by omega); omega
    have b4 : 2 * N = 2 * (k * W) + W → k % 2 = 0 := fun q => by have := a2.2.2 q; omega
    generalize k * W = kW at *
    generalize m * W = mW at *
    unfold ab
    rcases cases5 with c | c | c | c
    · have := f2 c; constructor
      · split <;> split <;> omega
      · intro q; split at q <;> split at q <;> omega
    · exact ⟨by rw [f4 c]; omega, fun _ => .inl c⟩
    · have := f5 c; constructor
      · split <;> split <;> omega
      · intro q; split at q <;> split at q <;> omega
    · have := f3 c; constructor
      · split <;> split <;> omega
      · intro q; split at q <;> split at q <;> omega
end Go.Proofs.Ytjocbnjpjihpnaa.M
end
section
namespace Go.Proofs.Ytjocbnjpjihpnaa.M
open Go.RowKit Go.Proofs.YtjocbnjpjihpnaaW.PrintWords Go.Proofs.YtjocbnjpjihpnaaW.PrintLast Go.Proofs.YtjocbnjpjihpnaaW.PrintMore
set_option linter.unusedVariables false

/-! ### Products and quotients by 1, of opposites -/
/-! ### The root of a square -/
theorem rnd_near (M : Int) (d : Nat) : 2 * (rnd M d * 2 ^ d - M) ≤ 2 ^ d ∧ 2 * (M - rnd M d * 2 ^ d) ≤ 2 ^ d := by
  have hp := pow_pos d
  have h1 := Int.mul_ediv_add_emod M (2 ^ d)
  have h2 := Int.emod_nonneg M (show (2 : Int) ^ d ≠ 0 by omega)
  have h3 := Int.emod_lt_of_pos M hp
  unfold rnd
  rw [Int.mul_comm] at h1
  split
  · rw [Int.add_mul]; omega
  · omega
/-! ### The nearest whole number, powers of two, the order -/
def near (b : Int) : Int × Bool := if fx b = 2047 ∨ bl (pm b) + pe b > 62 then (0, false) else (if fs b then -(ru (pm b) (pe b) 0) else ru (pm b) (pe b) 0, true)
def fkey (b : Int) : Int := if fs b then -(b - 9223372036854775808) else b
def less (a b : Int) : Bool := decide (fk a ≠ 4 ∧ fk b ≠ 4 ∧ fkey a < fkey b)
end Go.Proofs.Ytjocbnjpjihpnaa.M
end
section
namespace Go.Proofs.Ytjocbnjpjihpnaa.M
open Go.RowKit Go.Proofs.YtjocbnjpjihpnaaW.PrintWords Go.Proofs.YtjocbnjpjihpnaaW.PrintLast Go.Proofs.YtjocbnjpjihpnaaW.PrintMore
set_option linter.unusedVariables false

/-- In units of the least double. -/
def V (b : Int) : Int := pm b * 2 ^ (pe b + 1074).toNat
def SV (b : Int) : Int := sgI (fs b) (V b)
/-- The word without its sign. -/
def mw (b : Int) : Int := fx b * 4503599627370496 + fr b
theorem V_nonneg (b : Int) : 0 ≤ V b := Int.mul_nonneg (pm_range b).1 (by have := pow_pos (pe b + 1074).toNat; omega)
theorem V_low {b : Int} (h : fx b = 0) : V b = fr b := by
  unfold V pm pe
  rw [if_pos h, if_pos h]
  show fr b * 2 ^ 0 = _
  rw [Int.pow_zero, Int.mul_one]
theorem V_high {b : Int} {n : Nat} (h : fx b = n + 1) : V b = (fr b + 4503599627370496) * 2 ^ n := by
  unfold V pm pe
  rw [if_neg (by omega), if_neg (by omega), show (fx b - 1075 + 1074).toNat = n by omega]
theorem V_lt {a b : Int} (h : mw a < mw b) : V a < V b := by
  have a1 := @fx_range a
  have a2 := @fr_range a
  have b1 := @fx_range b
  have b2 := @fr_range b
  unfold mw at h
  rcases (show fx a = fx b ∨ fx a < fx b by omega) with he | he
  · rcases (show fx b = 0 ∨ 0 < fx b by omega) with h0 | h0
    · rw [V_low (by omega), V_low h0]
      omega
    · obtain ⟨n, hn⟩ : ∃ n : Nat, fx b = n + 1 := ⟨(fx b - 1).toNat, by omega⟩
      rw [V_high (by omega : fx a = n + 1), V_high hn]
      exact Int.mul_lt_mul_of_pos_right (by omega) (pow_pos n)
  · obtain ⟨n, hn⟩ : ∃ n : Nat, fx b = n + 1 := ⟨(fx b - 1).toNat, by omega⟩
    rw [V_high hn]
    have hp := pow_pos n
    have hb : 4503599627370496 * 2 ^ n ≤ (fr b + 4503599627370496) * 2 ^ n := Int.mul_le_mul_of_nonneg_right (by omega) (by omega)
    rcases (show fx a = 0 ∨ 0 < fx a by omega) with h0 | h0
    · rw [V_low h0]
      omega
    · obtain ⟨m, hm⟩ : ∃ m : Nat, fx a = m + 1 := ⟨(fx a - 1).toNat, by omega⟩
      rw [V_high hm]
      have hq := pow_pos m
      have h1 : (fr a + 4503599627370496) * 2 ^ m < 9007199254740992 * 2 ^ m := Int.mul_lt_mul_of_pos_right (by omega) hq
      have h2 := pow_le_pow (show m + 1 ≤ n by omega)
      rw [Int.pow_succ] at h2
      omega
theorem V_same {a b : Int} (h : mw a = mw b) : V a = V b := by
  have a1 := @fx_range a
  have a2 := @fr_range a
  have b1 := @fx_range b
  have b2 := @fr_range b
  unfold mw at h
  have h1 : fx a = fx b := by omega
  have h2 : fr a = fr b := by omega
  unfold V pm pe
  rw [h1, h2]
theorem V_iff (a b : Int) : (V a < V b ↔ mw a < mw b) ∧ (V a = V b ↔ mw a = mw b) := by
  rcases Int.lt_trichotomy (mw a) (mw b) with h | h | h
  · have := V_lt h
    omega
  · have := V_same h
    omega
  · have := V_lt h
    omega
theorem mw_nonneg (b : Int) : 0 ≤ mw b := by
  have a1 := @fx_range b
  have a2 := @fr_range b
  unfold mw
  omega
theorem V_zero (b : Int) : V b = 0 ↔ mw b = 0 := by
  have h := (V_iff b 0).2
  have e1 : V 0 = 0 := by decide
  have e2 : mw 0 = 0 := by decide
  rw [e1, e2] at h
  exact h
theorem tn_V (b : Int) : pm b * 2 ^ (pe b).toNat * 2 ^ 1074 = V b * 2 ^ (-pe b).toNat := by
  have h := pe_range b
  unfold V
  rw [Int.mul_assoc, Int.mul_assoc, ← Int.pow_add, ← Int.pow_add]
  congr 2
  omega
end Go.Proofs.Ytjocbnjpjihpnaa.M
end
section
namespace Go.Proofs.Ytjocbnjpjihpnaa.M
open Go.RowKit Go.Proofs.YtjocbnjpjihpnaaW.PrintWords Go.Proofs.YtjocbnjpjihpnaaW.PrintLast Go.Proofs.YtjocbnjpjihpnaaW.PrintMore
set_option linter.unusedVariables false

theorem V_word {w u b : Int} (h : b = (u + 1074) * 4503599627370496 + w) (w0 : 0 ≤ w) (w1 : w ≤ 9007199254740992) (hu1 : -1074 ≤ u) (hu2 : u ≤ 971) (w2 : u = -1074 ∨ 4503599627370496 ≤ w) (hb : b < INF) :
    fx b ≠ 2047 ∧ fs b = false ∧ V b = w * 2 ^ (u + 1074).toNat ∧ U b := by
  unfold INF at hb
  have hs : fs b = false := by unfold fs; exact decide_eq_false (by omega)
  refine ⟨by unfold fx; omega, hs, ?_, by unfold U; omega⟩
  rcases Int.lt_or_le w 4503599627370496 with k | k
  · obtain rfl : u = -1074 := by omega
    rw [V_low (by unfold fx; omega)]
    show fr b = w * 2 ^ 0
    rw [Int.pow_zero, Int.mul_one]
    unfold fr
    omega
  · rcases Int.lt_or_le w 9007199254740992 with k2 | k2
    · rw [V_high (n := (u + 1074).toNat) (by unfold fx; omega)]
      congr 1
      unfold fr
      omega
    · obtain rfl : w = 9007199254740992 := by omega
      rw [V_high (n := (u + 1074).toNat + 1) (by unfold fx; omega), Int.pow_succ, show fr b = 0 by unfold fr; omega]
      generalize (2 : Int) ^ (u + 1074).toNat = p
      omega
end Go.Proofs.Ytjocbnjpjihpnaa.M
end
section
namespace Go.Proofs.Ytjocbnjpjihpnaa.M
open Go.RowKit Go.Proofs.Ytjocbnjpjihpnaa.P Go.Proofs.YtjocbnjpjihpnaaW.PrintWords Go.Proofs.YtjocbnjpjihpnaaW.PrintLast Go.Proofs.YtjocbnjpjihpnaaW.PrintMore
set_option linter.unusedVariables false

theorem shn_nat {n : Int} (h : n ≤ 65536) : shn n = n.toNat := by
  rcases Int.lt_or_le n 0 with h0 | h0
  · unfold shn mn mx
    split <;> split <;> omega
  · exact shn_of h0 h
end Go.Proofs.Ytjocbnjpjihpnaa.M
end
section
namespace Go.Proofs.Ytjocbnjpjihpnaa.M
open Go.RowKit Go.Proofs.Ytjocbnjpjihpnaa.P Go.Proofs.YtjocbnjpjihpnaaW.PrintWords Go.Proofs.YtjocbnjpjihpnaaW.PrintLast Go.Proofs.YtjocbnjpjihpnaaW.PrintMore
set_option linter.unusedVariables false

/-- Units of the least double. -/
def LL : Int := 2 ^ 1074
theorem LL_pos : 0 < LL := pow_pos 1074
theorem bl_LL : bl LL ≤ 1075 := bl_le_of (n := 1075) (by have := pow_pos 1074; unfold LL; rw [Int.pow_succ]; omega)
theorem bl_V (b : Int) : bl (V b) ≤ 2200 := by
  have h := pm_range b
  have h2 := pe_range b
  have b1 : bl (pm b) ≤ 53 := bl_le_of (n := 53) (by omega)
  unfold V
  rcases (show pm b = 0 ∨ 0 < pm b by omega) with h0 | h0
  · rw [h0, Int.zero_mul, bl_zero]; omega
  · rw [bl_shl h0]; omega
theorem ab_SV (b : Int) : ab (SV b) = V b := by
  have := V_nonneg b
  unfold ab SV sgI
  cases fs b
  · simp only [Bool.false_eq_true, if_false]; rw [if_neg (by omega)]
  · simp only [if_true]; split <;> omega
theorem fit_V (b : Int) : Fit (SV b) LL := by
  have := bl_V b
  have := bl_LL
  exact ⟨LL_pos, by rw [ab_SV]; omega, by omega⟩
theorem ref10_ToRat_c {b : Int} (h : U b) : Ev (fun k => gradineref10_ToRat.f k b) (Rq (SV b) LL) := by
  have p1 := pm_range b
  have p2 := pe_range b
  have p3 : -1074 ≤ pe b ∧ pe b ≤ 972 := ⟨p2.1, p2.2.1⟩
  clear p2
  refine Ev.bindc (ref09_Parts_c h) (Ev.bindc (ref09_Neg_c h) ?_)
  dsimp only
  rw [w64_id (n := -pe b) (by omega) (by omega)]
  have S1 := ref02_Shl_c (a := [pm b]) ⟨Ws_one (by unfold U; omega), by simp⟩ (by simp) (pe b)
  have S2 := ref02_Shl_c (a := [1]) ⟨Ws_one (by unfold U; omega), by decide⟩ (by decide) (-pe b)
  rw [nv_one, shn_nat (by omega)] at S1 S2
  rw [Int.one_mul] at S2
  refine Ev.bind S1 (Ev.bind S2 ?_)
  have b1 : bl (pm b) ≤ 53 := bl_le_of (n := 53) (by omega)
  have hp := pow_pos (pe b).toNat
  have hq := pow_pos (-pe b).toNat
  have bn : bl (pm b * 2 ^ (pe b).toNat) ≤ 2000 := by
    rcases (show pm b = 0 ∨ 0 < pm b by omega) with h0 | h0
    · rw [h0, Int.zero_mul, bl_zero]; omega
    · rw [bl_shl h0]; omega
  have bd : bl ((2 : Int) ^ (-pe b).toNat) ≤ 2000 := by
    have : bl ((2 : Int) ^ (-pe b).toNat) ≤ (((-pe b).toNat + 1 : Nat) : Int) := bl_le_of (by rw [Int.pow_succ]; omega)
    omega
  refine Ev.bind (make_dg (fs b) (Int.mul_nonneg p1.1 (by omega)) hq (by omega) (by omega)) (Ev.same ?_)
  have e : Rq (sgI (fs b) (pm b * 2 ^ (pe b).toNat)) (2 ^ (-pe b).toNat) = Rq (SV b) LL := by
    refine Rq_eq hq LL_pos ?_
    have t := tn_V b
    unfold SV sgI LL
    cases fs b
    · simp only [Bool.false_eq_true, if_false]; exact t
    · simp only [if_true]; rw [Int.neg_mul, Int.neg_mul, t]
  rw [e]
end Go.Proofs.Ytjocbnjpjihpnaa.M
end
section
namespace Go.Proofs.Ytjocbnjpjihpnaa.M
open Go.RowKit Go.Proofs.YtjocbnjpjihpnaaW.PrintWords Go.Proofs.YtjocbnjpjihpnaaW.PrintLast Go.Proofs.YtjocbnjpjihpnaaW.PrintMore
set_option linter.unusedVariables false

theorem ab_mul_pos {x p : Int} (h : 0 < p) : ab (p * x) = p * ab x := by rw [Int.mul_comm p x, ab_mul x h, Int.mul_comm]
theorem LL_eq : LL = 2 ^ (1074 : Nat) := rfl
theorem two_pows {a b c d : Nat} {x : Int} (hx : x = 2 ^ b) (h : a + b = c + d) : (2 : Int) ^ a * x = 2 ^ c * 2 ^ d := by
  subst hx
  rw [← Int.pow_add, ← Int.pow_add, h]
/-- A fraction's rounding, laid open: the unit, the rounded number, and what is nearest. -/
theorem fq_open {N D : Int} (hN : 0 < N) (hD : 0 < D) (h0 : -1200 ≤ bl N - bl D) (h1 : bl N - bl D ≤ 1200) (hw : fq N D < INF) :
    ∃ u r : Int, -1074 ≤ u ∧ u ≤ 971 ∧ 0 ≤ r ∧ r ≤ 9007199254740992 ∧ (u = -1074 ∨ 4503599627370496 * 2 ^ (u + 1074).toNat * D ≤ N * LL) ∧ fq N D = (u + 1074) * 4503599627370496 + r ∧ (u = -1074 ∨ 4503599627370496 ≤ r) ∧
      ∀ m : Int, ab (N * LL - r * 2 ^ (u + 1074).toNat * D) ≤ ab (N * LL - m * 2 ^ (u + 1074).toNat * D) ∧ (ab (N * LL - r * 2 ^ (u + 1074).toNat * D) = ab (N * LL - m * 2 ^ (u + 1074).toNat * D) → m = r ∨ r % 2 = 0) := by
  rw [fq_far hN hD h0 h1] at hw ⊢
  have q := quot_big (up := (max (70 - (bl N - bl D)) 0).toNat) (g := 60) hN hD (by omega)
  have he : -(max (70 - (bl N - bl D)) 0) - 1 = -((max (70 - (bl N - bl D)) 0).toNat : Int) - 1 := by omega
  rw [he] at hw ⊢
  generalize (max (70 - (bl N - bl D)) 0).toNat = up at *
  have qg := (qv_ge (N * 2 ^ up) D).1
  have k60 : (2 : Int) ^ 60 = 1152921504606846976 := rfl
  have hQ : 2 ^ 60 ≤ qv (N * 2 ^ up) D := by omega
  have hb := bl_ge' hQ
  have hp : 0 < qv (N * 2 ^ up) D := by omega
  generalize hQd : qv (N * 2 ^ up) D = Q at *
  have hun : un Q (-(up : Int) - 1) ≤ 971 := by
    rcases Int.lt_or_le 971 (un Q (-(up : Int) - 1)) with k | k
    · unfold Rd at hw
      rw [if_neg (by omega), if_pos k] at hw
      omega
    · exact k
  have hR : Rd Q (-(up : Int) - 1) = (un Q (-(up : Int) - 1) + 1074) * 4503599627370496 + ru Q (-(up : Int) - 1) (un Q (-(up : Int) - 1)) := by
    unfold Rd; rw [if_neg (by omega), if_neg (by omega)]
  have U3 := ru_units (m := Q) (e := -(up : Int) - 1) hp
  have U4 := un_q (m := Q) (e := -(up : Int) - 1) hp
  have u1 := un_ge Q (-(up : Int) - 1)
  have ud : un Q (-(up : Int) - 1) ≥ -(up : Int) - 1 + 2 := by unfold un; omega
  rw [hR]
  unfold ru at *
  generalize un Q (-(up : Int) - 1) = u at *
  rw [show (-(up : Int) - 1 - u).toNat = 0 by omega, Int.pow_zero, Int.mul_one] at *
  generalize hd : (u - (-(up : Int) - 1)).toNat = d at *
  have hd2 : 2 ≤ d := by omega
  have hpw : (2 : Int) ^ d * LL = 2 ^ (up + 1) * 2 ^ (u + 1074).toNat := by
    have hd' : d + 1074 = up + 1 + (u + 1074).toNat := by omega
    exact two_pows (a := d) (b := 1074) (c := up + 1) (d := (u + 1074).toNat) (x := LL) LL_eq hd'
  have P0 := pow_pos (up + 1)
  have key : ∀ m : Int, LL * (2 * (N * 2 ^ up) - m * 2 ^ d * D) = 2 ^ (up + 1) * (N * LL - m * 2 ^ (u + 1074).toNat * D) := fun m => by
    have a1 : LL * (2 * (N * 2 ^ up)) = 2 ^ (up + 1) * (N * LL) := by
      rw [Int.pow_succ]
      generalize LL = L
      ac_rfl
    have a2 : LL * (m * 2 ^ d * D) = 2 ^ (up + 1) * (m * 2 ^ (u + 1074).toNat * D) := by
      have : LL * (m * 2 ^ d * D) = 2 ^ d * LL * (m * D) := by generalize LL = L; ac_rfl
      rw [this, hpw]
      ac_rfl
    rw [Int.mul_sub, Int.mul_sub, a1, a2]
  have kab : ∀ m : Int, LL * ab (2 * (N * 2 ^ up) - m * 2 ^ d * D) = 2 ^ (up + 1) * ab (N * LL - m * 2 ^ (u + 1074).toNat * D) := fun m => by
    rw [← ab_mul_pos LL_pos, ← ab_mul_pos P0, key]
  refine ⟨u, rnd Q d, by omega, hun, U3.1, U3.2.1, ?_, rfl, U3.2.2, fun m => ?_⟩
  · rcases U4.2.2 with k | k
    · exact .inl k
    · refine .inr ?_
      have hge : 4503599627370496 * 2 ^ d ≤ Q := (Int.le_ediv_iff_mul_le (pow_pos d)).1 k
      obtain ⟨j, rfl⟩ : ∃ j : Nat, d = j + 1 := ⟨d - 1, by omega⟩
      have ev := (qv_even (N := N * 2 ^ up) (h := 4503599627370496 * 2 ^ j) hD).1
      rw [hQd] at ev
      have e2 : 2 * (4503599627370496 * (2 : Int) ^ j) = 4503599627370496 * 2 ^ (j + 1) := by rw [Int.pow_succ]; ac_rfl
      rw [e2] at ev
      have : ¬ 2 * (N * 2 ^ up) < 4503599627370496 * 2 ^ (j + 1) * D := fun z => by have := ev.2 z; omega
      have K := key 4503599627370496
      have L1 : 0 ≤ LL * (2 * (N * 2 ^ up) - 4503599627370496 * 2 ^ (j + 1) * D) := Int.mul_nonneg (Int.le_of_lt LL_pos) (by omega)
      rw [K] at L1
      have := Int.nonneg_of_mul_nonneg_right L1 P0
      omega
  · have R := rnd_nearest (N := N * 2 ^ up) (D := D) (d := d) hD hd2 m
    rw [hQd] at R
    constructor
    · have := Int.mul_le_mul_of_nonneg_left R.1 (Int.le_of_lt LL_pos)
      rw [kab, kab] at this
      exact Int.le_of_mul_le_mul_left this P0
    · intro e
      refine R.2 ?_
      have this : (2 : Int) ^ (up + 1) * ab (N * LL - rnd Q d * 2 ^ (u + 1074).toNat * D) = 2 ^ (up + 1) * ab (N * LL - m * 2 ^ (u + 1074).toNat * D) := by rw [e]
      rw [← kab, ← kab] at this
      exact Int.eq_of_mul_eq_mul_left (by have := LL_pos; omega) this
theorem sgI_mulr (s : Bool) (x y : Int) : sgI s (x * y) = sgI s x * y := by unfold sgI; cases s <;> simp [Int.neg_mul]
/-- No finite double is nearer; of two that are as near it is the even one. -/
theorem fq_near {N D z : Int} (hN : 0 < N) (hD : 0 < D) (h0 : -1200 ≤ bl N - bl D) (h1 : bl N - bl D ≤ 1200) (hw : fq N D < INF) :
    fx (fq N D) ≠ 2047 ∧ fs (fq N D) = false ∧ U (fq N D) ∧ ab (N * LL - V (fq N D) * D) ≤ ab (N * LL - SV z * D) ∧ (ab (N * LL - V (fq N D) * D) = ab (N * LL - SV z * D) → SV z = V (fq N D) ∨ fq N D % 2 = 0) := by
  obtain ⟨u, r, c1, c2, c3, c4, c5, c6, c7, c8⟩ := fq_open hN hD h0 h1 hw
  obtain ⟨v1, v2, v3, v4⟩ := V_word c6 c3 c4 c1 c2 c7 hw
  refine ⟨v1, v2, v4, ?_⟩
  rw [v3]
  have ev : r % 2 = 0 → fq N D % 2 = 0 := fun h => by omega
  have zr := pm_range z
  have ze := pe_range z
  have G0 := pow_pos (u + 1074).toNat
  rcases Int.lt_or_le (pe z) u with k | k
  · have hu : ¬ u = -1074 := by omega
    have B := c5.resolve_left hu
    have hV : SV z < 4503599627370496 * 2 ^ (u + 1074).toNat := by
      have e1 : V z < 4503599627370496 * 2 ^ (u + 1074).toNat := by
        unfold V
        obtain ⟨n, hn⟩ : ∃ n : Nat, (u + 1074).toNat = n + 1 := ⟨(u + 1074).toNat - 1, by omega⟩
        have p1 := pow_le_pow (a := (pe z + 1074).toNat) (b := n) (by omega)
        have p0 := pow_pos (pe z + 1074).toNat
        have p2 : pm z * 2 ^ (pe z + 1074).toNat ≤ 9007199254740991 * 2 ^ (pe z + 1074).toNat := Int.mul_le_mul_of_nonneg_right (by omega) (by omega)
        rw [hn, Int.pow_succ]
        omega
      have e2 := V_nonneg z
      unfold SV sgI
      split <;> omega
    have S := Int.mul_lt_mul_of_pos_right hV hD
    have c := (c8 4503599627370496).1
    have : ab (N * LL - 4503599627370496 * 2 ^ (u + 1074).toNat * D) < ab (N * LL - SV z * D) := by unfold ab; split <;> split <;> omega
    exact ⟨by omega, fun e => by omega⟩
  · have hm : SV z = sgI (fs z) (pm z * 2 ^ (pe z - u).toNat) * 2 ^ (u + 1074).toNat := by
      unfold SV V
      rw [← sgI_mulr, Int.mul_assoc, ← Int.pow_add, show (pe z - u).toNat + (u + 1074).toNat = (pe z + 1074).toNat by omega]
    have c := c8 (sgI (fs z) (pm z * 2 ^ (pe z - u).toNat))
    rw [hm]
    refine ⟨c.1, fun e => ?_⟩
    rcases c.2 e with q | q
    · exact .inl (by rw [q])
    · exact .inr (ev q)
end Go.Proofs.Ytjocbnjpjihpnaa.M
end
section
namespace Go.Proofs.Ytjocbnjpjihpnaa.M
open Go.RowKit Go.Proofs.YtjocbnjpjihpnaaW.PrintWords Go.Proofs.YtjocbnjpjihpnaaW.PrintLast Go.Proofs.YtjocbnjpjihpnaaW.PrintMore
set_option linter.unusedVariables false

/-- A rounded number that reaches an even number's upper half came from no less. -/
theorem rnd_reach {Q k : Int} {d : Nat} (hd : 1 ≤ d) (h : k ≤ rnd Q d) : 2 * k * 2 ^ d ≤ 2 * Q + 2 ^ d := by
  have r := rnd_near Q d
  have p := pow_pos d
  have := Int.mul_le_mul_of_nonneg_right h (show (0 : Int) ≤ 2 ^ d by omega)
  rw [Int.mul_assoc]
  omega
/-- What a quotient's bound says of the fraction. -/
theorem qv_bound {N D c : Int} {up s : Nat} (hD : 0 < D) (h : c * 2 ^ (up + s + 1) ≤ qv (N * 2 ^ up) D) : c * 2 ^ s * D ≤ N := by
  have ev := (qv_even (N := N * 2 ^ up) (h := c * 2 ^ (up + s)) hD).1
  have e : 2 * (c * (2 : Int) ^ (up + s)) = c * 2 ^ (up + s + 1) := by rw [Int.pow_succ]; ac_rfl
  rw [e] at ev
  have h1 : ¬ 2 * (N * 2 ^ up) < c * 2 ^ (up + s + 1) * D := fun z => by have := ev.2 z; omega
  have p := pow_pos up
  have e2 : c * (2 : Int) ^ (up + s + 1) * D = 2 * (c * 2 ^ s * D * 2 ^ up) := by rw [Int.pow_succ, Int.pow_add]; ac_rfl
  rw [e2] at h1
  exact Int.le_of_mul_le_mul_right (show c * 2 ^ s * D * 2 ^ up ≤ N * 2 ^ up by omega) p
theorem fq_over {N D : Int} (hN : 0 < N) (hD : 0 < D) (h0 : -1200 ≤ bl N - bl D) (h1 : bl N - bl D ≤ 1200) (hw : ¬ fq N D < INF) : 18014398509481983 * 2 ^ 970 * D ≤ N := by
  rw [fq_far hN hD h0 h1] at hw
  have q := quot_big (up := (max (70 - (bl N - bl D)) 0).toNat) (g := 60) hN hD (by omega)
  have he : -(max (70 - (bl N - bl D)) 0) - 1 = -((max (70 - (bl N - bl D)) 0).toNat : Int) - 1 := by omega
  rw [he] at hw
  generalize (max (70 - (bl N - bl D)) 0).toNat = up at *
  have qg := (qv_ge (N * 2 ^ up) D).1
  have k60 : (2 : Int) ^ 60 = 1152921504606846976 := rfl
  have hp : 0 < qv (N * 2 ^ up) D := by omega
  refine qv_bound (up := up) (s := 970) hD ?_
  generalize qv (N * 2 ^ up) D = Q at *
  have U3 := ru_units (m := Q) (e := -(up : Int) - 1) hp
  have u1 := un_ge Q (-(up : Int) - 1)
  have bb := bl_le hp
  have P := pow_pos (up + 970)
  rcases Int.lt_or_le 971 (un Q (-(up : Int) - 1)) with k | k
  · have hb : bl Q ≥ 1026 + up := by unfold un at k; omega
    have k2 := pow_le_pow (a := 54 + (up + 970 + 1)) (b := (bl Q - 1).toNat) (by omega)
    rw [Int.pow_add] at k2
    have e54 : (2 : Int) ^ 54 = 18014398509481984 := rfl
    have P1 := pow_pos (up + 970 + 1)
    rw [e54] at k2
    generalize (2 : Int) ^ (up + 970 + 1) = X at *
    omega
  · unfold Rd at hw
    rw [if_neg (by omega), if_neg (by omega)] at hw
    unfold INF at hw
    have hu : un Q (-(up : Int) - 1) = 971 := by omega
    rw [hu] at hw U3
    unfold ru at hw U3
    rw [show (-(up : Int) - 1 - 971).toNat = 0 by omega, Int.pow_zero, Int.mul_one, show (971 - (-(up : Int) - 1)).toNat = up + 970 + 1 + 1 by omega] at hw U3
    have R := rnd_reach (Q := Q) (k := 9007199254740992) (d := up + 970 + 1 + 1) (by omega) (by omega)
    rw [Int.pow_succ] at R
    generalize (2 : Int) ^ (up + 970 + 1) = X at *
    omega
/-- The same for fractions of any size. -/
theorem near_all {N D z : Int} (hN : 0 < N) (hD : 0 < D) (hw : fq N D < INF) :
    fx (fq N D) ≠ 2047 ∧ fs (fq N D) = false ∧ U (fq N D) ∧ ab (N * LL - V (fq N D) * D) ≤ ab (N * LL - SV z * D) ∧ (ab (N * LL - V (fq N D) * D) = ab (N * LL - SV z * D) → SV z = V (fq N D) ∨ fq N D % 2 = 0) := by
  by_cases h0 : bl N - bl D < -1200
  · have e : fq N D = 0 := by unfold fq; rw [if_pos h0]
    rw [e]
    refine ⟨by decide, by decide, by unfold U; omega, ?_⟩
    have v0 : V 0 = 0 := by rw [V_low (by decide)]; decide
    rw [v0, Int.zero_mul, Int.sub_zero]
    have hx : 0 ≤ N * LL := Int.mul_nonneg (by omega) (Int.le_of_lt LL_pos)
    have hs : 2 * (N * LL) < D := by
      have b1 := bl_lt N
      have b2 := bl_le hD
      have k := pow_le_pow (a := (bl N).toNat + 1075) (b := (bl D - 1).toNat) (by have := bl_nonneg N; omega)
      rw [Int.pow_add, Int.pow_succ 2 1074, ← LL_eq] at k
      have := Int.mul_lt_mul_of_pos_right b1 LL_pos
      have e3 : (2 : Int) ^ (bl N).toNat * (LL * 2) = 2 * (2 ^ (bl N).toNat * LL) := by generalize LL = L; ac_rfl
      rw [e3] at k
      omega
    have hab : ab (N * LL) = N * LL := by unfold ab; rw [if_neg (by omega)]
    rw [hab]
    by_cases c : SV z = 0
    · rw [c, Int.zero_mul, Int.sub_zero, hab]
      exact ⟨Int.le_refl _, fun _ => .inl rfl⟩
    · have : N * LL < ab (N * LL - SV z * D) := by
        rcases (show SV z ≤ -1 ∨ 1 ≤ SV z by omega) with k | k
        · have := Int.mul_le_mul_of_nonneg_right k (show 0 ≤ D by omega)
          unfold ab; split <;> omega
        · have := Int.mul_le_mul_of_nonneg_right k (show 0 ≤ D by omega)
          unfold ab; split <;> omega
      exact ⟨by omega, fun q => by omega⟩
  · by_cases h1 : bl N - bl D ≤ 1200
    · exact fq_near hN hD (by omega) h1 hw
    · have e : fq N D = INF := by unfold fq; rw [if_neg h0, if_pos (by omega)]
      omega
theorem over_all {N D : Int} (hN : 0 < N) (hD : 0 < D) (hw : ¬ fq N D < INF) : 18014398509481983 * 2 ^ 970 * D ≤ N := by
  by_cases h0 : bl N - bl D < -1200
  · have e : fq N D = 0 := by unfold fq; rw [if_pos h0]
    rw [e] at hw
    exact absurd (by unfold INF; omega) hw
  · by_cases h1 : bl N - bl D ≤ 1200
    · exact fq_over hN hD (by omega) h1 hw
    · have b1 := bl_lt D
      have b2 := bl_le hN
      have b3 := bl_pos hD
      have k := pow_le_pow (a := (bl D).toNat + (54 + 970)) (b := (bl N - 1).toNat) (by omega)
      have P := pow_pos 970
      rw [Int.pow_add, Int.pow_add] at k
      have e54 : (2 : Int) ^ 54 = 18014398509481984 := rfl
      rw [e54] at k
      have m1 : 18014398509481983 * 2 ^ 970 * D ≤ 18014398509481984 * 2 ^ 970 * D := Int.mul_le_mul_of_nonneg_right (by omega) (by omega)
      have m2 : 18014398509481984 * 2 ^ 970 * D ≤ 18014398509481984 * 2 ^ 970 * 2 ^ (bl D).toNat := Int.mul_le_mul_of_nonneg_left (by omega) (by omega)
      rw [Int.mul_comm (18014398509481984 * 2 ^ 970) (2 ^ (bl D).toNat)] at m2
      omega
end Go.Proofs.Ytjocbnjpjihpnaa.M
end
section
namespace Go.Proofs.Ytjocbnjpjihpnaa.M
open Go.RowKit Go.Proofs.Ytjocbnjpjihpnaa.P Go.Proofs.YtjocbnjpjihpnaaW.PrintWords Go.Proofs.YtjocbnjpjihpnaaW.PrintLast Go.Proofs.YtjocbnjpjihpnaaW.PrintMore
set_option linter.unusedVariables false

theorem fround_ToRat_c {b : Int} (h : U b) : Ev (fun k => fround_ToRat.f k b) (if fx b = 2047 then (false, [], [], 1) else ((Rq (SV b) LL).1, (Rq (SV b) LL).2.1, (Rq (SV b) LL).2.2, 0)) := by
  have p1 := pm_range b
  have p2 := pe_range b
  have p3 : -1074 ≤ pe b ∧ pe b ≤ 972 := ⟨p2.1, p2.2.1⟩
  clear p2
  refine Ev.bind (fbits_Parts_c h) ?_
  by_cases hx : fx b = 2047
  · rw [if_pos hx, if_pos hx]
    exact Ev.ifn (by decide) (Ev.same rfl)
  · rw [if_neg hx, if_neg hx]
    refine Ev.ifp rfl ?_
    dsimp only
    have b1 : bl (pm b) ≤ 53 := bl_le_of (n := 53) (by have : (2 : Int) ^ 53 = 9007199254740992 := rfl; omega)
    have O := nat_Of_c (x := pm b) (by unfold U; omega)
    have I := nat_Of_c (x := 1) (by unfold U; omega)
    have t := tn_V b
    by_cases he : pe b ≥ 0
    · refine Ev.ifp he (Ev.bind O ?_)
      have S := nat_Shl_c (a := dg (pm b)) (Wl_dg (by omega)) (by have := dg_len_bl (pm b); omega) (pe b)
      rw [nv_dg p1.1, shn_of he (by omega)] at S
      refine Ev.bind S (Ev.bind I ?_)
      have hp := pow_pos (pe b).toNat
      have h0 : 0 ≤ pm b * 2 ^ (pe b).toNat := Int.mul_nonneg p1.1 (by omega)
      have bn : bl (pm b * 2 ^ (pe b).toNat) ≤ 2000 := by
        rcases (show pm b = 0 ∨ 0 < pm b by omega) with h0 | h0
        · rw [h0, Int.zero_mul, bl_zero]; omega
        · rw [bl_shl h0]; omega
      have ln := dg_len_bl (pm b * 2 ^ (pe b).toNat)
      have M := rat_Make_c (fs b) (a := dg (pm b * 2 ^ (pe b).toNat)) (b := dg 1) (Wl_dg (by omega)) (Wl_dg (by decide)) (by omega) (by decide)
      rw [nv_dg h0, nv_dg (by omega), if_neg (by omega)] at M
      have e : Rq (sgI (fs b) (pm b * 2 ^ (pe b).toNat)) 1 = Rq (SV b) LL := by
        refine Rq_eq (by omega) LL_pos ?_
        rw [show (-pe b).toNat = 0 by omega, Int.pow_zero] at t
        unfold SV sgI LL
        cases fs b
        · simp only [Bool.false_eq_true, if_false]; exact t
        · simp only [if_true]; rw [Int.neg_mul, Int.neg_mul, t]
      rw [e] at M
      exact Ev.bind M (Ev.same rfl)
    · refine Ev.ifn he (Ev.bind O (Ev.bind I ?_))
      rw [w64_id (n := -pe b) (by omega) (by omega)]
      have S := nat_Shl_c (a := dg 1) (Wl_dg (by decide)) (by decide) (-pe b)
      rw [nv_dg (by omega), shn_of (by omega) (by omega), Int.one_mul] at S
      refine Ev.bind S ?_
      have hp := pow_pos (-pe b).toNat
      have bd : bl ((2 : Int) ^ (-pe b).toNat) ≤ 2000 := by
        have : bl ((2 : Int) ^ (-pe b).toNat) ≤ (((-pe b).toNat + 1 : Nat) : Int) := bl_le_of (by rw [Int.pow_succ]; omega)
        omega
      have ln := dg_len_bl ((2 : Int) ^ (-pe b).toNat)
      have lp := dg_len_bl (pm b)
      have M := rat_Make_c (fs b) (a := dg (pm b)) (b := dg (2 ^ (-pe b).toNat)) (Wl_dg (by omega)) (Wl_dg (by omega)) (by omega) (by omega)
      rw [nv_dg p1.1, nv_dg (by omega), if_neg (by omega)] at M
      have e : Rq (sgI (fs b) (pm b)) (2 ^ (-pe b).toNat) = Rq (SV b) LL := by
        refine Rq_eq hp LL_pos ?_
        rw [show (pe b).toNat = 0 by omega, Int.pow_zero, Int.mul_one] at t
        unfold SV sgI LL
        cases fs b
        · simp only [Bool.false_eq_true, if_false]; exact t
        · simp only [if_true]; rw [Int.neg_mul, Int.neg_mul, t]
      rw [e] at M
      exact Ev.bind M (Ev.same rfl)
theorem qv_more {N D e : Int} (hq : 0 < N / D) : (if decide (((dg (N % D)).length : Int) > 0) = true then Rd (2 * (N / D) + 1) (e - 1) else Rd (N / D) e) = Rd (qv N D) (e - 1) ∨ N % D < 0 := by
  rcases Int.lt_or_le (N % D) 0 with h | h
  · exact .inr h
  · left
    unfold qv
    by_cases hz : N % D = 0
    · rw [hz, dg_zero, if_neg (by decide), if_pos rfl, ← Rd_scale hq e 1, Int.pow_one, Int.mul_comm]
      rfl
    · have : (dg (N % D)).length ≠ 0 := fun k => hz ((dg_len_zero h).1 (by omega))
      rw [if_pos (decide_eq_true (by omega)), if_neg hz]
/-- The double of a right number. -/
def fR (neg : Bool) (N D : Int) : Int := if N = 0 then 0 else sgn neg (fq N D)
theorem div_small {N D : Int} {up : Nat} (hN : 0 < N) (hD : 0 < D) {m : Int} (hm : bl N + up ≤ m) : 0 ≤ N * 2 ^ up / D ∧ bl (N * 2 ^ up / D) ≤ m ∧ 0 ≤ N * 2 ^ up % D ∧ bl (N * 2 ^ up % D) ≤ m := by
  have hp := pow_pos up
  have h0 : 0 < N * 2 ^ up := Int.mul_pos hN hp
  have hb : bl (N * 2 ^ up) = bl N + up := bl_shl hN up
  have h1 : N * 2 ^ up / D ≤ N * 2 ^ up := Int.ediv_le_self _ (by omega)
  have h3 := Int.mul_ediv_add_emod (N * 2 ^ up) D
  have h4 := Int.mul_nonneg (show 0 ≤ D by omega) (Int.ediv_nonneg (show 0 ≤ N * 2 ^ up by omega) (show 0 ≤ D by omega))
  have h2 : N * 2 ^ up % D ≤ N * 2 ^ up := by omega
  exact ⟨Int.ediv_nonneg (by omega) (by omega), by have := bl_mono h1; omega, Int.emod_nonneg _ (by omega), by have := bl_mono h2; omega⟩
theorem fround_FromRat_c {a b : List Int} (neg : Bool) (ha : Wl a) (hb : Wl b) (hla : a.length ≤ 30) (hlb : b.length ≤ 30) (hB : 0 < nv b) : Ev (fun k => fround_FromRat.f k neg a b) (fR neg (nv a) (nv b)) := by
  have na := nv_nonneg ha.1
  have ba := bl_nv ha.1
  have bb := bl_nv hb.1
  have pb := bl_pos hB
  have b0 := bl_nonneg (nv a)
  refine Ev.bind (nat_Bits_c ha) (Ev.bind (nat_Bits_c hb) (Ev.bind (rat_Sign_c neg ha) ?_))
  have SG := rat_Sign_c (b := b) neg ha
  rw [w64_id (n := bl (nv a) - bl (nv b)) (by omega) (by omega)]
  unfold fR
  by_cases hz : nv a = 0
  · rw [if_pos hz]
    rw [if_pos hz] at SG ⊢
    refine Ev.ifp rfl (Ev.eqv (fun k => fround_FromRat.j0.eq_1 ..) (Ev.ifp rfl ?_))
    cases neg
    · exact Ev.ifn (by decide) (Ev.bind (fround_made_zero false) (Ev.same rfl))
    · exact Ev.ifp rfl (Ev.bind SG (Ev.bind (fround_made_zero _) (Ev.same rfl)))
  · have hN : 0 < nv a := by omega
    rw [if_neg hz] at SG ⊢
    have hs : (if neg = true then (-1 : Int) else 1) ≠ 0 := by cases neg <;> decide
    rw [if_neg hz]
    refine Ev.ifn hs (Ev.eqv (fun k => fround_FromRat.j0.eq_1 ..) ?_)
    by_cases h1 : bl (nv a) - bl (nv b) < -1200
    · refine Ev.ifp (decide_eq_true h1) ?_
      have e : fq (nv a) (nv b) = 0 := by unfold fq; rw [if_pos h1]
      rw [e]
      cases neg
      · exact Ev.ifn (by decide) (Ev.bind (fround_made_zero false) (Ev.same rfl))
      · exact Ev.ifp rfl (Ev.bind SG (Ev.bind (fround_made_zero _) (Ev.same rfl)))
    · refine Ev.ifn (by simp; omega) ?_
      by_cases h2 : bl (nv a) - bl (nv b) > 1200
      · refine Ev.ifp h2 (Ev.bindc (fbits_Inf_c neg) (Ev.same ?_))
        unfold fq
        rw [if_neg (by omega), if_pos (by omega)]
      · refine Ev.ifn h2 ?_
        rw [fq_far hN hB (by omega) (by omega)]
        have eM : mx (wrap64 (70 - (bl (nv a) - bl (nv b)))) 0 = max (70 - (bl (nv a) - bl (nv b))) 0 := by
          rw [w64_id (by omega) (by omega)]; unfold mx; split <;> omega
        rw [eM]
        have S := nat_Shl_c ha (by omega) (max (70 - (bl (nv a) - bl (nv b))) 0)
        rw [shn_of (by omega) (by omega)] at S
        refine Ev.bind S ?_
        obtain ⟨up, hup⟩ : ∃ up : Nat, max (70 - (bl (nv a) - bl (nv b))) 0 = (up : Int) := ⟨(max (70 - (bl (nv a) - bl (nv b))) 0).toNat, by omega⟩
        have q := quot_big (up := up) (g := 1) hN hB (by omega)
        rw [hup, Int.toNat_natCast]
        have ds := div_small (up := up) hN hB (m := 4000) (by omega)
        have hp0 : 0 < nv a * 2 ^ up := Int.mul_pos hN (pow_pos up)
        have bs : bl (nv a * 2 ^ up) = bl (nv a) + up := bl_shl hN up
        have ls := dg_len_bl (nv a * 2 ^ up)
        have D := quot_Div_c (a := dg (nv a * 2 ^ up)) (b := b) (Wl_dg (by omega)) hb (by omega)
        rw [if_neg (by omega), nv_dg (by omega)] at D
        refine Ev.bind D ?_
        dsimp only
        have lq := dg_len_bl (nv a * 2 ^ up / nv b)
        have F := fround_Of_c neg (l := dg (nv a * 2 ^ up / nv b)) (Wl_dg (by omega)) (by omega) (wrap64 (-(up : Int))) (decide (((dg (nv a * 2 ^ up % nv b)).length : Int) > 0))
        rw [nv_dg ds.1, w64_id (by omega) (by omega), ce_id (by omega) (by omega)] at F
        have k := qv_more (N := nv a * 2 ^ up) (D := nv b) (e := -(up : Int)) (by omega)
        rw [k.resolve_right (by omega)] at F
        rw [w64_id (by omega) (by omega)]
        exact Ev.bind F (Ev.same rfl)
end Go.Proofs.Ytjocbnjpjihpnaa.M
end
section
namespace Go.Proofs.Ytjocbnjpjihpnaa.M
open Go.RowKit Go.Proofs.YtjocbnjpjihpnaaW.PrintWords Go.Proofs.YtjocbnjpjihpnaaW.PrintLast Go.Proofs.YtjocbnjpjihpnaaW.PrintMore
set_option linter.unusedVariables false

theorem sgn_fields (neg : Bool) {w : Int} (h0 : 0 ≤ w) (h1 : w < 9223372036854775808) : fx (sgn neg w) = fx w ∧ fr (sgn neg w) = fr w ∧ fs (sgn neg w) = neg ∧ U (sgn neg w) := by
  unfold fx fr fs sgn U
  cases neg
  · refine ⟨rfl, rfl, ?_, ?_⟩
    · simp; omega
    · simp; omega
  · refine ⟨?_, ?_, ?_, ?_⟩
    · simp; omega
    · simp; omega
    · simp; omega
    · simp; omega
theorem sgn_V (neg : Bool) {w : Int} (h0 : 0 ≤ w) (h1 : w < 9223372036854775808) : V (sgn neg w) = V w := by
  obtain ⟨e1, e2, _, _⟩ := sgn_fields neg h0 h1
  unfold V pm pe
  rw [e1, e2]
theorem sgn_SV (neg : Bool) {w : Int} (h0 : 0 ≤ w) (h1 : w < 9223372036854775808) : SV (sgn neg w) = sgI neg (V w) := by
  unfold SV
  rw [sgn_V neg h0 h1, (sgn_fields neg h0 h1).2.2.1]
/-- For each double there is its opposite. -/
theorem flip_SV (neg : Bool) {z : Int} (h : U z) : ∃ z' : Int, SV z' = sgI neg (SV z) := by
  cases neg
  · exact ⟨z, rfl⟩
  · unfold U at h
    refine ⟨if z < 9223372036854775808 then z + 9223372036854775808 else z - 9223372036854775808, ?_⟩
    have key : ∀ x y : Int, fx x = fx y → fr x = fr y → fs x = !(fs y) → SV x = sgI true (SV y) := fun x y e1 e2 e3 => by
      have : V x = V y := by unfold V pm pe; rw [e1, e2]
      unfold SV
      rw [this, e3]
      cases fs y <;> simp [sgI]
    refine key _ _ ?_ ?_ ?_
    · unfold fx; split <;> omega
    · unfold fr; split <;> omega
    · unfold fs
      split
      · rw [decide_eq_true (by omega), decide_eq_false (by omega)]; rfl
      · rw [decide_eq_false (by omega), decide_eq_true (by omega)]; rfl
theorem fq_range {N D : Int} : 0 ≤ fq N D ∧ fq N D ≤ INF := by
  unfold fq
  split
  · unfold INF; omega
  · split
    · unfold INF; omega
    · exact Rd_range _ _
theorem pow_2044 : (2 : Int) ^ 2045 = 2 * 2 ^ 2044 := by rw [Int.pow_succ, Int.mul_comm]
theorem ab_lt {X r m G : Int} (h : ab (X - r * G) ≤ ab (X - m * G)) (hr : r < m) (hG : 0 < G) : 2 * X ≤ (r + m) * G := by
  have e1 : (r + m) * G = r * G + m * G := Int.add_mul ..
  have := Int.mul_lt_mul_of_pos_right hr hG
  unfold ab at h
  split at h <;> split at h <;> omega
/-- What has a finite double is less than the greatest one and half a unit. -/
theorem fq_under {N D : Int} (hN : 0 < N) (hD : 0 < D) (hw : fq N D < INF) : 2 * (N * LL) < 36028797018963966 * 2 ^ 2044 * D := by
  have P := pow_pos 2044
  by_cases h0 : bl N - bl D < -1200
  · have b1 := bl_lt N
    have b2 := bl_le hD
    have k := pow_le_pow (a := (bl N).toNat + 1075) (b := (bl D - 1).toNat) (by have := bl_nonneg N; omega)
    rw [Int.pow_add, Int.pow_succ 2 1074, ← LL_eq] at k
    have := Int.mul_lt_mul_of_pos_right b1 LL_pos
    have e3 : (2 : Int) ^ (bl N).toNat * (LL * 2) = 2 * (2 ^ (bl N).toNat * LL) := by generalize LL = L; ac_rfl
    rw [e3] at k
    have h1 : 1 * D ≤ 36028797018963966 * 2 ^ 2044 * D := Int.mul_le_mul_of_nonneg_right (by omega) (by omega)
    omega
  · by_cases h1 : bl N - bl D ≤ 1200
    · obtain ⟨u, r, c1, c2, c3, c4, c5, c6, c7, c8⟩ := fq_open hN hD (by omega) h1 hw
      have G0 := pow_pos (u + 1074).toNat
      have GD : 0 < 2 ^ (u + 1074).toNat * D := Int.mul_pos G0 hD
      have c8' : ∀ m : Int, ab (N * LL - r * (2 ^ (u + 1074).toNat * D)) ≤ ab (N * LL - m * (2 ^ (u + 1074).toNat * D)) ∧ (ab (N * LL - r * (2 ^ (u + 1074).toNat * D)) = ab (N * LL - m * (2 ^ (u + 1074).toNat * D)) → m = r ∨ r % 2 = 0) := fun m => by
        have := c8 m
        rw [Int.mul_assoc, Int.mul_assoc] at this
        exact this
      rcases Int.lt_or_le u 971 with k | k
      · have q := ab_lt (c8' (r + 1)).1 (by omega) GD
        have k2 := pow_le_pow (a := (u + 1074).toNat) (b := 2044) (by omega)
        have k3 : (2 : Int) ^ (u + 1074).toNat * D ≤ 2 ^ 2044 * D := Int.mul_le_mul_of_nonneg_right k2 (by omega)
        have k4 : (r + (r + 1)) * (2 ^ (u + 1074).toNat * D) ≤ 18014398509481985 * (2 ^ (u + 1074).toNat * D) := Int.mul_le_mul_of_nonneg_right (by omega) (by omega)
        have PD : 0 < 2 ^ 2044 * D := Int.mul_pos P hD
        rw [Int.mul_assoc]
        generalize (2 : Int) ^ 2044 * D = Y at *
        generalize (2 : Int) ^ (u + 1074).toNat * D = Z at *
        omega
      · have hu : u = 971 := by omega
        subst hu
        have e0 : ((971 : Int) + 1074).toNat = 2045 := rfl
        rw [e0, pow_2044] at c8' GD
        have hr : r ≤ 9007199254740991 := by unfold INF at hw; omega
        have PD : 0 < 2 ^ 2044 * D := Int.mul_pos P hD
        have e1 : (2 : Int) * 2 ^ 2044 * D = 2 * (2 ^ 2044 * D) := Int.mul_assoc ..
        rw [e1] at c8' GD
        have q := ab_lt (c8' 9007199254740992).1 (by omega) GD
        rw [Int.mul_assoc]
        have hlt : 2 * (N * LL) ≠ (r + 9007199254740992) * (2 * (2 ^ 2044 * D)) ∨ r < 9007199254740991 := by
          by_cases hr2 : r < 9007199254740991
          · exact .inr hr2
          · have hre : r = 9007199254740991 := by omega
            subst hre
            refine .inl fun e => ?_
            have t := (c8' 9007199254740992).2 (by
              unfold ab
              split <;> split <;> omega)
            rcases t with t | t
            · omega
            · exact absurd t (by decide)
        generalize (2 : Int) ^ 2044 * D = Y at *
        have k4 : (r + 9007199254740992) * (2 * Y) ≤ 18014398509481983 * (2 * Y) := Int.mul_le_mul_of_nonneg_right (by omega) (by omega)
        rcases hlt with hlt | hlt
        · have : (r + 9007199254740992) * (2 * Y) ≤ 18014398509481983 * (2 * Y) := k4
          by_cases hre : r = 9007199254740991
          · subst hre; omega
          · have k5 : (r + 9007199254740992) * (2 * Y) ≤ 18014398509481982 * (2 * Y) := Int.mul_le_mul_of_nonneg_right (by omega) (by omega)
            omega
        · have k5 : (r + 9007199254740992) * (2 * Y) ≤ 18014398509481982 * (2 * Y) := Int.mul_le_mul_of_nonneg_right (by omega) (by omega)
          omega
    · have e : fq N D = INF := by unfold fq; rw [if_neg h0, if_pos (by omega)]
      omega
theorem LL_2044 : LL * 2 ^ 970 = 2 ^ 2044 := by rw [LL_eq, ← Int.pow_add]
/-- Greater fractions have no lesser doubles. -/
theorem fq_mono {N D N' D' : Int} (hN : 0 < N) (hD : 0 < D) (hN' : 0 < N') (hD' : 0 < D') (h : N * D' ≤ N' * D) : fq N D ≤ fq N' D' := by
  have r1 := fq_range (N := N) (D := D)
  have r2 := fq_range (N := N') (D := D')
  by_cases w' : fq N' D' < INF
  · by_cases w : fq N D < INF
    · rcases Int.lt_or_le (fq N' D') (fq N D) with k | k
      · exfalso
        obtain ⟨a1, a2, a3, a4, a5⟩ := near_all (z := fq N' D') hN hD w
        obtain ⟨b1, b2, b3, b4, b5⟩ := near_all (z := fq N D) hN' hD' w'
        have sw : ∀ x : Int, fs x = false → SV x = V x := fun x hx => by unfold SV; rw [hx]; rfl
        rw [sw _ b2] at a4 a5
        rw [sw _ a2] at b4 b5
        have mwf : ∀ x : Int, 0 ≤ x → x ≤ INF → mw x = x := fun x h0 h1 => by unfold mw fx fr; unfold INF at h1; omega
        have hV : V (fq N' D') < V (fq N D) := V_lt (by rw [mwf _ r2.1 r2.2, mwf _ r1.1 r1.2]; exact k)
        -- both lie in the middle
        have e1 : (V (fq N D) + V (fq N' D')) * D ≤ 2 * (N * LL) := by
          rw [Int.add_mul]
          have := Int.mul_lt_mul_of_pos_right hV hD
          unfold ab at a4
          split at a4 <;> split at a4 <;> omega
        have e2 : 2 * (N' * LL) ≤ (V (fq N D) + V (fq N' D')) * D' := by
          rw [Int.add_mul]
          have := Int.mul_lt_mul_of_pos_right hV hD'
          unfold ab at b4
          split at b4 <;> split at b4 <;> omega
        have e3 := Int.mul_le_mul_of_nonneg_right e1 (show 0 ≤ D' by omega)
        have e4 := Int.mul_le_mul_of_nonneg_right e2 (show 0 ≤ D by omega)
        have e5 := Int.mul_le_mul_of_nonneg_right h (show 0 ≤ LL by have := LL_pos; omega)
        have e6 : 2 * (N * LL) * D' = 2 * (N * D' * LL) := by generalize LL = L; ac_rfl
        have e7 : 2 * (N' * LL) * D = 2 * (N' * D * LL) := by generalize LL = L; ac_rfl
        have e8 : (V (fq N D) + V (fq N' D')) * D * D' = (V (fq N D) + V (fq N' D')) * D' * D := by ac_rfl
        rw [e6] at e3
        rw [e7] at e4
        rw [e8] at e3
        have f1 : (V (fq N D) + V (fq N' D')) * D = 2 * (N * LL) := by
          have : (V (fq N D) + V (fq N' D')) * D * D' = 2 * (N * LL) * D' := by rw [e8, e6]; omega
          exact Int.eq_of_mul_eq_mul_right (by omega) this
        have f2 : 2 * (N' * LL) = (V (fq N D) + V (fq N' D')) * D' := by
          have : 2 * (N' * LL) * D = (V (fq N D) + V (fq N' D')) * D' * D := by rw [e7]; omega
          exact Int.eq_of_mul_eq_mul_right (by omega) this
        rw [Int.add_mul] at f1 f2
        have t1 := a5 (by
          have := Int.mul_lt_mul_of_pos_right hV hD
          unfold ab
          split <;> split <;> omega)
        have t2 := b5 (by
          have := Int.mul_lt_mul_of_pos_right hV hD'
          unfold ab
          split <;> split <;> omega)
        have p1 := t1.resolve_left (by omega)
        have p2 := t2.resolve_left (by omega)
        -- the double between
        have q1 : V (fq N' D') < V (fq N' D' + 1) := V_lt (by rw [mwf _ r2.1 r2.2, mwf _ (by omega) (by omega)]; omega)
        have q2 : V (fq N' D' + 1) < V (fq N D) := V_lt (by rw [mwf _ (by omega) (by omega), mwf _ r1.1 r1.2]; omega)
        obtain ⟨_, _, _, g4, _⟩ := near_all (z := fq N' D' + 1) hN hD w
        rw [sw _ (by unfold fs; unfold INF at *; simp; omega)] at g4
        have g1 := Int.mul_lt_mul_of_pos_right q1 hD
        have g2 := Int.mul_lt_mul_of_pos_right q2 hD
        unfold ab at g4
        split at g4 <;> split at g4 <;> omega
      · exact k
    · exfalso
      have o := over_all hN hD w
      have u := fq_under hN' hD' w'
      have o1 := Int.mul_le_mul_of_nonneg_right o (show 0 ≤ LL * D' from Int.mul_nonneg (by have := LL_pos; omega) (by omega))
      have o2 := Int.mul_lt_mul_of_pos_right u hD
      have o3 := Int.mul_le_mul_of_nonneg_right h (show 0 ≤ LL by have := LL_pos; omega)
      have e1 : 18014398509481983 * 2 ^ 970 * D * (LL * D') = 18014398509481983 * (LL * 2 ^ 970) * D' * D := by generalize LL = L; generalize (2 : Int) ^ 970 = Q; ac_rfl
      have e2 : N * (LL * D') = N * D' * LL := by generalize LL = L; ac_rfl
      have e3 : 2 * (N' * LL) * D = 2 * (N' * D * LL) := by generalize LL = L; ac_rfl
      have e4 : (36028797018963966 : Int) * 2 ^ 2044 * D' * D = 2 * (18014398509481983 * 2 ^ 2044 * D' * D) := by
        generalize (2 : Int) ^ 2044 = Q
        have : (36028797018963966 : Int) = 2 * 18014398509481983 := rfl
        rw [this]; ac_rfl
      rw [e1, LL_2044, e2] at o1
      rw [e3, e4] at o2
      omega
  · unfold INF at *; omega
/-- A double's own fraction has that double. -/
theorem fq_back {N E w : Int} (hN : 0 < N) (hE : 0 < E) (h0 : 0 ≤ w) (h1 : w < INF) (h : N * LL = V w * E) : fq N E = w := by
  have mwf : ∀ x : Int, 0 ≤ x → x ≤ INF → mw x = x := fun x h0 h1 => by unfold mw fx fr; unfold INF at h1; omega
  have r := fq_range (N := N) (D := E)
  have sw : ∀ x : Int, fs x = false → SV x = V x := fun x hx => by unfold SV; rw [hx]; rfl
  have hfs : fs w = false := by unfold fs; unfold INF at h1; simp; omega
  by_cases hw : fq N E < INF
  · obtain ⟨_, a2, _, a4, _⟩ := near_all (z := w) hN hE hw
    rw [sw _ hfs, h, Int.sub_self] at a4
    have : V (fq N E) * E = V w * E := by
      unfold ab at a4
      split at a4 <;> simp at a4 <;> omega
    have := Int.eq_of_mul_eq_mul_right (by omega) this
    have := (V_iff (fq N E) w).2.1 this
    rw [mwf _ r.1 r.2, mwf _ h0 (by omega)] at this
    exact this
  · exfalso
    have o := over_all hN hE hw
    have hV : V w < V 9218868437227405311 ∨ V w = V 9218868437227405311 := by
      rcases Int.lt_or_le w 9218868437227405311 with k | k
      · exact .inl (V_lt (by rw [mwf _ h0 (by omega), mwf _ (by omega) (by unfold INF; omega)]; exact k))
      · have : w = 9218868437227405311 := by unfold INF at h1; omega
        exact .inr (by rw [this])
    have e9 : V 9218868437227405311 = 9007199254740991 * (2 * 2 ^ 2044) := by
      rw [V_high (n := 2045) (by decide), pow_2044]
      have : fr 9218868437227405311 + 4503599627370496 = 9007199254740991 := by decide
      rw [this]
    have hle : V w ≤ 9007199254740991 * (2 * 2 ^ 2044) := by omega
    have o1 := Int.mul_le_mul_of_nonneg_right o (show 0 ≤ LL by have := LL_pos; omega)
    have e1 : 18014398509481983 * 2 ^ 970 * E * LL = 18014398509481983 * ((LL * 2 ^ 970) * E) := by generalize LL = L; generalize (2 : Int) ^ 970 = Q; ac_rfl
    rw [e1, LL_2044, h] at o1
    have o2 := Int.mul_le_mul_of_nonneg_right hle (show 0 ≤ E by omega)
    have P := Int.mul_pos (pow_pos 2044) hE
    have e2 : 9007199254740991 * (2 * (2 : Int) ^ 2044) * E = 18014398509481982 * (2 ^ 2044 * E) := by
      have : (18014398509481982 : Int) = 9007199254740991 * 2 := rfl
      rw [this]
      generalize (2 : Int) ^ 2044 = Q
      ac_rfl
    rw [e2] at o2
    omega
end Go.Proofs.Ytjocbnjpjihpnaa.M
end
section
namespace Go.Proofs.Ytjocbnjpjihpnaa.M
open Go.RowKit Go.Proofs.Ytjocbnjpjihpnaa.P Go.Proofs.YtjocbnjpjihpnaaW.PrintWords Go.Proofs.YtjocbnjpjihpnaaW.PrintLast Go.Proofs.YtjocbnjpjihpnaaW.PrintMore
set_option linter.unusedVariables false

theorem law10_same_c : Ev (fun k => gradinelaw10_same.f k) true := by
  have h1 := fround_Word_c (m := 9007199254740993) (e := 0) false (by unfold U; omega)
  rw [show sgn false (Rd 9007199254740993 (ce 0)) = 4845873199050653696 by decide] at h1
  have h2 := fround_Word_c (m := 9007199254740995) (e := 0) false (by unfold U; omega)
  rw [show sgn false (Rd 9007199254740995 (ce 0)) = 4845873199050653698 by decide] at h2
  have h3 := fround_FromInt_c (n := -1) (by omega) (by omega)
  rw [show sgn (decide ((-1 : Int) < 0)) (Rd (if (-1 : Int) < 0 then - (-1) else -1) 0) = 13830554455654793216 by decide] at h3
  refine Ev.bind h1 (Ev.ifp rfl (Ev.bind h2 (Ev.ifp rfl (Ev.bind h3 (Ev.same rfl)))))
end Go.Proofs.Ytjocbnjpjihpnaa.M
end
