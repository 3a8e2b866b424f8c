/- Doubles and exact numbers: what FromRat and ToRat answer, in the program and in the reference. -/
import Derived.Test.YtbpggonjcnakgaaC10f
import Derived.Test.YtbpggonjcnakgaaC10t
import Derived.Test.YtbpggonjcnakgaaC07m
import Derived.Test.YtbpggonjcnakgaaC04c
import Derived.Test.YtbpggonjcnakgaaBfround
import Derived.Test.YtbpggonjcnakgaaBgradineref10
import Derived.Test.YtbpggonjcnakgaaBgradineref07
namespace Go.Proofs.Ytbpggonjcnakgaa.M
open Go.RowKit Go.Proofs.Ytbpggonjcnakgaa.P Go.Proofs.YtbpggonjcnakgaaW.PrintWords Go.Proofs.YtbpggonjcnakgaaW.PrintLast Go.Proofs.YtbpggonjcnakgaaW.PrintMore
set_option linter.unusedVariables false

theorem fround_ToRat_c {b : Int} (h : U b) : Ev (fun k => fround_ToRat.f k b) (if fx b = 2047 then (false, [], [], 1) else ((Rq (SV b) LL).1, (Rq (SV b) LL).2.1, (Rq (SV b) LL).2.2, 0)) := by
  have p1 := pm_range b
  have p2 := pe_range b
  have p3 : -1074 ≤ pe b ∧ pe b ≤ 972 := ⟨p2.1, p2.2.1⟩
  clear p2
  refine Ev.bind (fbits_Parts_c h) ?_
  by_cases hx : fx b = 2047
  · rw [if_pos hx, if_pos hx]
    exact Ev.ifn (by decide) (Ev.same rfl)
  · rw [if_neg hx, if_neg hx]
    refine Ev.ifp rfl ?_
    dsimp only
    have b1 : bl (pm b) ≤ 53 := bl_le_of (n := 53) (by have : (2 : Int) ^ 53 = 9007199254740992 := rfl; omega)
    have O := nat_Of_c (x := pm b) (by unfold U; omega)
    have I := nat_Of_c (x := 1) (by unfold U; omega)
    have t := tn_V b
    by_cases he : pe b ≥ 0
    · refine Ev.ifp he (Ev.bind O ?_)
      have S := nat_Shl_c (a := dg (pm b)) (Wl_dg (by omega)) (by have := dg_len_bl (pm b); omega) (pe b)
      rw [nv_dg p1.1, shn_of he (by omega)] at S
      refine Ev.bind S (Ev.bind I ?_)
      have hp := pow_pos (pe b).toNat
      have h0 : 0 ≤ pm b * 2 ^ (pe b).toNat := Int.mul_nonneg p1.1 (by omega)
      have bn : bl (pm b * 2 ^ (pe b).toNat) ≤ 2000 := by
        rcases (show pm b = 0 ∨ 0 < pm b by omega) with h0 | h0
        · rw [h0, Int.zero_mul, bl_zero]; omega
        · rw [bl_shl h0]; omega
      have ln := dg_len_bl (pm b * 2 ^ (pe b).toNat)
      have M := rat_Make_c (fs b) (a := dg (pm b * 2 ^ (pe b).toNat)) (b := dg 1) (Wl_dg (by omega)) (Wl_dg (by decide)) (by omega) (by decide)
      rw [nv_dg h0, nv_dg (by omega), if_neg (by omega)] at M
      have e : Rq (sgI (fs b) (pm b * 2 ^ (pe b).toNat)) 1 = Rq (SV b) LL := by
        refine Rq_eq (by omega) LL_pos ?_
        rw [show (-pe b).toNat = 0 by omega, Int.pow_zero] at t
        unfold SV sgI LL
        cases fs b
        · simp only [Bool.false_eq_true, if_false]; exact t
        · simp only [if_true]; rw [Int.neg_mul, Int.neg_mul, t]
      rw [e] at M
      exact Ev.bind M (Ev.same rfl)
    · refine Ev.ifn he (Ev.bind O (Ev.bind I ?_))
      rw [w64_id (n := -pe b) (by omega) (by omega)]
      have S := nat_Shl_c (a := dg 1) (Wl_dg (by decide)) (by decide) (-pe b)
      rw [nv_dg (by omega), shn_of (by omega) (by omega), Int.one_mul] at S
      refine Ev.bind S ?_
      have hp := pow_pos (-pe b).toNat
      have bd : bl ((2 : Int) ^ (-pe b).toNat) ≤ 2000 := by
        have : bl ((2 : Int) ^ (-pe b).toNat) ≤ (((-pe b).toNat + 1 : Nat) : Int) := bl_le_of (by rw [Int.pow_succ]; omega)
        omega
      have ln := dg_len_bl ((2 : Int) ^ (-pe b).toNat)
      have lp := dg_len_bl (pm b)
      have M := rat_Make_c (fs b) (a := dg (pm b)) (b := dg (2 ^ (-pe b).toNat)) (Wl_dg (by omega)) (Wl_dg (by omega)) (by omega) (by omega)
      rw [nv_dg p1.1, nv_dg (by omega), if_neg (by omega)] at M
      have e : Rq (sgI (fs b) (pm b)) (2 ^ (-pe b).toNat) = Rq (SV b) LL := by
        refine Rq_eq hp LL_pos ?_
        rw [show (pe b).toNat = 0 by omega, Int.pow_zero, Int.mul_one] at t
        unfold SV sgI LL
        cases fs b
        · simp only [Bool.false_eq_true, if_false]; exact t
        · simp only [if_true]; rw [Int.neg_mul, Int.neg_mul, t]
      rw [e] at M
      exact Ev.bind M (Ev.same rfl)
theorem qv_more {N D e : Int} (hq : 0 < N / D) : (if decide (((dg (N % D)).length : Int) > 0) = true then Rd (2 * (N / D) + 1) (e - 1) else Rd (N / D) e) = Rd (qv N D) (e - 1) ∨ N % D < 0 := by
  rcases Int.lt_or_le (N % D) 0 with h | h
  · exact .inr h
  · left
    unfold qv
    by_cases hz : N % D = 0
    · rw [hz, dg_zero, if_neg (by decide), if_pos rfl, ← Rd_scale hq e 1, Int.pow_one, Int.mul_comm]
      rfl
    · have : (dg (N % D)).length ≠ 0 := fun k => hz ((dg_len_zero h).1 (by omega))
      rw [if_pos (decide_eq_true (by omega)), if_neg hz]
/-- The double of a right number. -/
def fR (neg : Bool) (N D : Int) : Int := if N = 0 then 0 else sgn neg (fq N D)
theorem div_small {N D : Int} {up : Nat} (hN : 0 < N) (hD : 0 < D) {m : Int} (hm : bl N + up ≤ m) : 0 ≤ N * 2 ^ up / D ∧ bl (N * 2 ^ up / D) ≤ m ∧ 0 ≤ N * 2 ^ up % D ∧ bl (N * 2 ^ up % D) ≤ m := by
  have hp := pow_pos up
  have h0 : 0 < N * 2 ^ up := Int.mul_pos hN hp
  have hb : bl (N * 2 ^ up) = bl N + up := bl_shl hN up
  have h1 : N * 2 ^ up / D ≤ N * 2 ^ up := Int.ediv_le_self _ (by omega)
  have h3 := Int.mul_ediv_add_emod (N * 2 ^ up) D
  have h4 := Int.mul_nonneg (show 0 ≤ D by omega) (Int.ediv_nonneg (show 0 ≤ N * 2 ^ up by omega) (show 0 ≤ D by omega))
  have h2 : N * 2 ^ up % D ≤ N * 2 ^ up := by omega
  exact ⟨Int.ediv_nonneg (by omega) (by omega), by have := bl_mono h1; omega, Int.emod_nonneg _ (by omega), by have := bl_mono h2; omega⟩
theorem fround_FromRat_c {a b : List Int} (neg : Bool) (ha : Wl a) (hb : Wl b) (hla : a.length ≤ 30) (hlb : b.length ≤ 30) (hB : 0 < nv b) : Ev (fun k => fround_FromRat.f k neg a b) (fR neg (nv a) (nv b)) := by
  have na := nv_nonneg ha.1
  have ba := bl_nv ha.1
  have bb := bl_nv hb.1
  have pb := bl_pos hB
  have b0 := bl_nonneg (nv a)
  refine Ev.bind (nat_Bits_c ha) (Ev.bind (nat_Bits_c hb) (Ev.bind (rat_Sign_c neg ha) ?_))
  have SG := rat_Sign_c (b := b) neg ha
  rw [w64_id (n := bl (nv a) - bl (nv b)) (by omega) (by omega)]
  unfold fR
  by_cases hz : nv a = 0
  · rw [if_pos hz]
    rw [if_pos hz] at SG ⊢
    refine Ev.ifp rfl (Ev.step (fun k => fround_FromRat.j0.eq_2 ..) (Ev.ifp rfl ?_))
    cases neg
    · exact Ev.ifn (by decide) (Ev.bind (fround_made_zero false) (Ev.same rfl))
    · exact Ev.ifp rfl (Ev.bind SG (Ev.bind (fround_made_zero _) (Ev.same rfl)))
  · have hN : 0 < nv a := by omega
    rw [if_neg hz] at SG ⊢
    have hs : (if neg = true then (-1 : Int) else 1) ≠ 0 := by cases neg <;> decide
    rw [if_neg hz]
    refine Ev.ifn hs (Ev.step (fun k => fround_FromRat.j0.eq_2 ..) ?_)
    by_cases h1 : bl (nv a) - bl (nv b) < -1200
    · refine Ev.ifp (decide_eq_true h1) ?_
      have e : fq (nv a) (nv b) = 0 := by unfold fq; rw [if_pos h1]
      rw [e]
      cases neg
      · exact Ev.ifn (by decide) (Ev.bind (fround_made_zero false) (Ev.same rfl))
      · exact Ev.ifp rfl (Ev.bind SG (Ev.bind (fround_made_zero _) (Ev.same rfl)))
    · refine Ev.ifn (by simp; omega) ?_
      by_cases h2 : bl (nv a) - bl (nv b) > 1200
      · refine Ev.ifp h2 (Ev.bindc (fbits_Inf_c neg) (Ev.same ?_))
        unfold fq
        rw [if_neg (by omega), if_pos (by omega)]
      · refine Ev.ifn h2 ?_
        rw [fq_far hN hB (by omega) (by omega)]
        have eM : mx (wrap64 (70 - (bl (nv a) - bl (nv b)))) 0 = max (70 - (bl (nv a) - bl (nv b))) 0 := by
          rw [w64_id (by omega) (by omega)]; unfold mx; split <;> omega
        rw [eM]
        have S := nat_Shl_c ha (by omega) (max (70 - (bl (nv a) - bl (nv b))) 0)
        rw [shn_of (by omega) (by omega)] at S
        refine Ev.bind S ?_
        obtain ⟨up, hup⟩ : ∃ up : Nat, max (70 - (bl (nv a) - bl (nv b))) 0 = (up : Int) := ⟨(max (70 - (bl (nv a) - bl (nv b))) 0).toNat, by omega⟩
        have q := quot_big (up := up) (g := 1) hN hB (by omega)
        rw [hup, Int.toNat_natCast]
        have ds := div_small (up := up) hN hB (m := 4000) (by omega)
        have hp0 : 0 < nv a * 2 ^ up := Int.mul_pos hN (pow_pos up)
        have bs : bl (nv a * 2 ^ up) = bl (nv a) + up := bl_shl hN up
        have ls := dg_len_bl (nv a * 2 ^ up)
        have D := quot_Div_c (a := dg (nv a * 2 ^ up)) (b := b) (Wl_dg (by omega)) hb (by omega)
        rw [if_neg (by omega), nv_dg (by omega)] at D
        refine Ev.bind D ?_
        dsimp only
        have lq := dg_len_bl (nv a * 2 ^ up / nv b)
        have F := fround_Of_c neg (l := dg (nv a * 2 ^ up / nv b)) (Wl_dg (by omega)) (by omega) (wrap64 (-(up : Int))) (decide (((dg (nv a * 2 ^ up % nv b)).length : Int) > 0))
        rw [nv_dg ds.1, w64_id (by omega) (by omega), ce_id (by omega) (by omega)] at F
        have k := qv_more (N := nv a * 2 ^ up) (D := nv b) (e := -(up : Int)) (by omega)
        rw [k.resolve_right (by omega)] at F
        rw [w64_id (by omega) (by omega)]
        exact Ev.bind F (Ev.same rfl)
theorem ref10_FromRat_c {a b : List Int} (neg : Bool) (ha : Wl a) (hb : Wl b) (hla : a.length ≤ 30) (hlb : b.length ≤ 30) (hB : 0 < nv b) (hc : dg (nv a) = a) : Ev (fun k => gradineref10_FromRat.f k neg a b) (fR neg (nv a) (nv b)) := by
  have na := nv_nonneg ha.1
  have ba := bl_nv ha.1
  have bb := bl_nv hb.1
  have pb := bl_pos hB
  have b0 := bl_nonneg (nv a)
  refine Ev.bindc rfl ?_
  unfold fR
  by_cases hz : nv a = 0
  · rw [if_pos hz]
    have : a = [] := by rw [← hc, hz, dg_zero]
    exact Ev.ifp (by rw [this]; rfl) (Ev.same rfl)
  · have hN : 0 < nv a := by omega
    rw [if_neg hz]
    have hl : a.length ≠ 0 := fun k => hz (by rw [List.length_eq_zero_iff.1 k]; rfl)
    refine Ev.ifn (by simp; exact fun k => hl (by rw [k]; rfl)) ?_
    refine Ev.bind (ref02_Bits_c ha) (Ev.bind (ref02_Bits_c hb) ?_)
    rw [w64_id (n := bl (nv a) - bl (nv b)) (by omega) (by omega)]
    unfold fq
    by_cases h1 : bl (nv a) - bl (nv b) > 1100
    · refine Ev.ifp h1 (Ev.bindc (ref09_Inf_c neg) (Ev.same ?_))
      rw [if_neg (by omega), if_pos h1]
    · refine Ev.ifn h1 ?_
      by_cases h2 : bl (nv a) - bl (nv b) < -1200
      · refine Ev.ifp h2 (Ev.bindc (ref09_Signed_c neg (by omega) (by omega)) (Ev.same ?_))
        rw [if_pos h2]
      · refine Ev.ifn h2 ?_
        rw [if_neg h2, if_neg h1]
        have eM : mx 0 (wrap64 (64 - (bl (nv a) - bl (nv b)))) = max 0 (64 - (bl (nv a) - bl (nv b))) := by
          rw [w64_id (by omega) (by omega)]; unfold mx; split <;> omega
        rw [eM]
        have S := ref02_Shl_c ha (by omega) (max 0 (64 - (bl (nv a) - bl (nv b))))
        rw [shn_of (by omega) (by omega)] at S
        refine Ev.bind S ?_
        obtain ⟨up, hup⟩ : ∃ up : Nat, max 0 (64 - (bl (nv a) - bl (nv b))) = (up : Int) := ⟨(max 0 (64 - (bl (nv a) - bl (nv b)))).toNat, by omega⟩
        have q := quot_big (up := up) (g := 1) hN hB (by omega)
        rw [hup, Int.toNat_natCast]
        have ds := div_small (up := up) hN hB (m := 4000) (by omega)
        have hp0 : 0 < nv a * 2 ^ up := Int.mul_pos hN (pow_pos up)
        have bs : bl (nv a * 2 ^ up) = bl (nv a) + up := bl_shl hN up
        have ls := dg_len_bl (nv a * 2 ^ up)
        have D := ref04_Div_c (a := dg (nv a * 2 ^ up)) (b := b) (Wl_dg (by omega)) hb (by omega) (by omega) hB
        rw [nv_dg (by omega)] at D
        refine Ev.bind D ?_
        dsimp only
        have lq := dg_len_bl (nv a * 2 ^ up / nv b)
        have F := ref10_More_c neg (l := dg (nv a * 2 ^ up / nv b)) (Wl_dg (by omega)) (by omega) (wrap64 (-(up : Int))) (decide (((dg (nv a * 2 ^ up % nv b)).length : Int) > 0))
        rw [nv_dg ds.1, w64_id (by omega) (by omega), ce_id (by omega) (by omega)] at F
        have k := qv_more (N := nv a * 2 ^ up) (D := nv b) (e := -(up : Int)) (by omega)
        rw [k.resolve_right (by omega)] at F
        rw [w64_id (by omega) (by omega)]
        exact Ev.bind F (Ev.same rfl)
/-- What a right number is. -/
def RR (neg : Bool) (a b : List Int) : Prop := dg (nv a) = a ∧ dg (nv b) = b ∧ b.length ≠ 0 ∧ (neg = true → a.length ≠ 0) ∧ gc (nv a) (nv b) = 1
theorem ref07_Right_c {a b : List Int} (neg : Bool) (ha : Wl a) (hb : Wl b) (hla : a.length ≤ 1000) (hlb : b.length ≤ 1000) : ∃ r, Ev (fun k => gradineref07_Right.f k neg a b) r ∧ (r = true ↔ RR neg a b) := by
  have na := nv_nonneg ha.1
  have nb := nv_nonneg hb.1
  have bt : ∀ {x : Bool}, x = true → Ev (fun k => gradineref07_Right.j0 k x neg a b) false := fun h => Ev.step (fun k => gradineref07_Right.j0.eq_2 ..) (Ev.ifp h (Ev.same rfl))
  have bf : ∀ {x : Bool}, x = false → Ev (fun k => gradineref07_Right.j0 k x neg a b) (decide (gc (nv a) (nv b) = 1)) := fun h => by
    refine Ev.step (fun k => gradineref07_Right.j0.eq_2 ..) (Ev.ifn (by rw [h]; decide) (Ev.bind (ref05_Gcd_c ha hb hla hlb) ?_))
    have hg := gc_nonneg (nv a) (nv b)
    have C := ref02_Cmp_c (a := dg (gc (nv a) (nv b))) (b := [1]) (Wl_dg (by
      have h1 := bl_gc na nb (m := 64000) (by have := bl_nv ha.1; omega) (by have := bl_nv hb.1; omega)
      omega)) ⟨Ws_one (by unfold U; omega), by decide⟩
    rw [nv_dg hg, nv_one] at C
    refine Ev.bind C (Ev.same ?_)
    congr 1
    have := cmpI_same (x := gc (nv a) (nv b)) (y := 1)
    by_cases h2 : gc (nv a) (nv b) = 1
    · rw [decide_eq_true h2, this.2 h2]; rfl
    · rw [decide_eq_false h2]
      exact beq_eq_false_iff_ne.2 (fun k => h2 (this.1 k))
  unfold RR
  by_cases h1 : dg (nv a) = a
  · by_cases h2 : dg (nv b) = b
    · by_cases h3 : b.length = 0
      · exact ⟨_, Ev.bind (ref02_Right_c ha) (Ev.ifp (decide_eq_true h1) (Ev.bind (ref02_Right_c hb) (Ev.ifp (decide_eq_true h2) (Ev.ifp (by omega) (bt rfl))))), by simp [h3]⟩
      · have pre : ∀ {r : Bool}, Ev (fun k => if neg = true then gradineref07_Right.j0 k ((a.length : Int) == 0) neg a b else gradineref07_Right.j0 k false neg a b) r → Ev (fun k => gradineref07_Right.f k neg a b) r := fun h =>
          Ev.bind (ref02_Right_c ha) (Ev.ifp (decide_eq_true h1) (Ev.bind (ref02_Right_c hb) (Ev.ifp (decide_eq_true h2) (Ev.ifn (by omega) h))))
        cases neg
        · exact ⟨_, pre (Ev.ifn (by decide) (bf rfl)), by simp [h1, h2, h3]⟩
        · by_cases h4 : a.length = 0
          · exact ⟨_, pre (Ev.ifp rfl (bt (by rw [h4]; rfl))), by simp [h4]⟩
          · exact ⟨_, pre (Ev.ifp rfl (bf (beq_eq_false_iff_ne.2 (by omega)))), by simp [h1, h2, h3, h4]⟩
    · exact ⟨_, Ev.bind (ref02_Right_c ha) (Ev.ifp (decide_eq_true h1) (Ev.bind (ref02_Right_c hb) (Ev.ifn (by simp [h2]) (bt rfl)))), by simp [h2]⟩
  · exact ⟨_, Ev.bind (ref02_Right_c ha) (Ev.ifn (by simp [h1]) (bt rfl)), by simp [h1]⟩
end Go.Proofs.Ytbpggonjcnakgaa.M
