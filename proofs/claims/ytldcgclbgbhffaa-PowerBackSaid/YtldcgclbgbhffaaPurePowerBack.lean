/- What is shown is read again, and a right number of up to eight words lies between its floor and the next whole number. -/
import Derived.Test.YtldcgclbgbhffaaCCb
import Derived.Test.YtldcgclbgbhffaaFgradinelaw08PowerBack
namespace Go.Proofs.Ytldcgclbgbhffaa.Pure
open Go.RowKit Go.Proofs.Ytldcgclbgbhffaa.P Go.Proofs.Ytldcgclbgbhffaa.M Go.Proofs.YtldcgclbgbhffaaW.PrintWords Go.Proofs.YtldcgclbgbhffaaW.PrintLast Go.Proofs.YtldcgclbgbhffaaW.PrintMore

def PowerBackS : Prop := ∀ (s : Bool) (a b : List Int), a.length ≤ maxLen → a.length * 8 ≤ 140737488351232 → (∀ x ∈ a, (Lit.int .u64 x).wf = true) → b.length ≤ maxLen → b.length * 8 ≤ 140737488351232 → (∀ x ∈ b, (Lit.int .u64 x).wf = true) → ∃ k, gradinelaw08_PowerBack.f k s a b = some true
theorem eight_ten : ∀ m : Nat, (2 : Int) ^ (3 * m) ≤ 10 ^ m
  | 0 => by decide
  | m + 1 => by
    have h := eight_ten m
    have h0 := pow_pos (3 * m)
    rw [show 3 * (m + 1) = 3 * m + 3 by omega, Int.pow_add, Int.pow_succ]
    have : (2 : Int) ^ 3 = 8 := rfl
    omega
theorem sh_short {N : Int} (hN : 0 ≤ N) (b : bl N ≤ 512) : (sh N).length ≤ 400 := by
  have h1 := bl_lt N
  have h2 := pow_le_pow (a := (bl N).toNat) (b := 3 * 171) (by omega)
  have h := ds_len_le (m := 171) hN (Int.lt_of_lt_of_le h1 (Int.le_trans h2 (eight_ten 171)))
  unfold sh
  split
  · simp
  · rw [List.length_reverse]; omega
theorem Rq_den (x : Int) : (Rq x 1).2.2 = [1] := by
  have h := Rq_int (decide (x < 0)) (ab_nonneg x)
  have e : sgI (decide (x < 0)) (ab x) = x := by
    unfold sgI ab
    by_cases hx : x < 0
    · rw [decide_eq_true hx, if_pos rfl, if_pos hx]; omega
    · rw [decide_eq_false hx, if_neg Bool.false_ne_true, if_neg hx]
  rw [e] at h
  rw [h]
theorem PowerBack : PowerBackS := by
  intro s a b _ _ ha _ _ hb
  have ha : Ws a := fun y hy => wf_u64 (ha y hy)
  have hb : Ws b := fun y hy => wf_u64 (hb y hy)
  obtain ⟨r, R, hr⟩ := law08_right_c s ha hb (n := 8) (by omega)
  suffices h : Ev (fun k => gradinelaw08_PowerBack.f k s a b) true by
    obtain ⟨m, h⟩ := h
    exact ⟨m, h m (Nat.le_refl m)⟩
  refine Ev.bind R ?_
  by_cases h : r = true
  · obtain ⟨S, D, e, F⟩ := hr h
    obtain ⟨N, E, e1, e2, e3, e4, e5, e6, e7, e8, e9⟩ := rq_parts F
    obtain ⟨es, ea, eb⟩ : s = (Rq S D).1 ∧ a = (Rq S D).2.1 ∧ b = (Rq S D).2.2 := by rw [← e]; exact ⟨rfl, rfl, rfl⟩
    rw [es, ea, eb]
    have F' := Fb_fit F (by omega)
    have lN := sh_short e2 (by omega)
    have lE := sh_short (N := E) (by omega) (by omega)
    have S1 := power_Show_c F' e1 e2 e3 (by omega) (by omega) e7
    have hby : byt (strOfNums (shw (decide (S < 0)) N E)) = shw (decide (S < 0)) N E := by
      refine byt_strOfNums fun x hx => ?_
      unfold shw at hx
      rw [List.mem_append, List.mem_append] at hx
      rcases hx with (hx | hx) | hx
      · split at hx
        · rw [List.mem_singleton] at hx; omega
        · cases hx
      · exact Dd_bytes (sh_Dd N) x hx
      · split at hx
        · cases hx
        · rcases List.mem_cons.1 hx with hx | hx
          · omega
          · exact Dd_bytes (sh_Dd E) x hx
    have hsz : (strOfNums (shw (decide (S < 0)) N E)).size ≤ 1000000 := by
      rw [strOfNums_size]
      unfold shw
      rw [List.length_append, List.length_append]
      have k1 : (if decide (S < 0) = true then [(45 : Int)] else []).length ≤ 1 := by split <;> simp
      have k2 : (if E = 1 then [] else (47 : Int) :: sh E).length ≤ 401 := by
        split
        · simp
        · simp only [List.length_cons]; omega
      omega
    have R1 := power_Read_c hsz
    have q : Rq (sgI (decide (S < 0)) N) E = Rq S D := Rq_eq e3 F.1 e6
    rw [hby, PR_shw _ e2 e3 lN lE, q] at R1
    have C1 := power_Floor_c F (by omega)
    have FF := Fit_floor F (by omega)
    have Q := same_yes F' F.1 (show S * D = S * D from rfl)
    have f0 : S / D * D ≤ S := Int.ediv_mul_le S (by have := F.1; omega)
    have f1 : S < (S / D + 1) * D := Int.lt_ediv_add_one_mul_self S F.1
    have bfl : Fb 14000 (S / D) 1 := ⟨FF.1, FF.2.1, FF.2.2⟩
    have bfl2 : Fb 520 (S / D) 1 := by
      refine ⟨by omega, ?_, by decide⟩
      have q0 : 0 ≤ N / E := Int.ediv_nonneg e2 (by omega)
      have ql : N / E ≤ N := Int.ediv_le_self E e2
      have b2 := bl_add (m := 512) e2 (show (0 : Int) ≤ 1 by omega) (by omega) (by decide)
      have k : ab (S / D) ≤ N + 1 := by
        rw [floor_parts F.1 e3 e6]
        cases decide (S < 0)
        · show ab (N / E) ≤ _
          unfold ab; split <;> omega
        · show ab ((-N) / E) ≤ _
          rw [floor_neg e3]
          unfold ab; split <;> split <;> omega
      have := bl_mono k
      omega
    have F1 : Fb 1 1 1 := ⟨by omega, by decide, by decide⟩
    have K1 := rat_Cmp_c FF F' (Fb_fit (Fb_sub bfl2 F) (by omega))
    have O := rat_Of_c (n := 1) (by omega) (by omega)
    have A := rat_Add_c FF (Fb_fit F1 (by omega))
    have bA := Fb_add bfl2 F1
    have K2 := rat_Cmp_c (Fb_fit bA (by omega)) F' (Fb_fit (Fb_sub bA F) (by omega))
    have A1 := power_Abs_c F'
    have FA : Fit (ab S) D := ⟨F.1, by rw [ab_ab]; have := F.2.1; omega, by have := F.2.2; omega⟩
    have G := rat_Sgn_c FA
    have na := ab_nonneg S
    have den := Rq_den (S / D)
    refine Ev.ifp h (Ev.bind S1 (Ev.bind R1 (Ev.bind C1 (Ev.ifp rfl (Ev.bind Q (Ev.ifp rfl (Ev.ifp ?_ (Ev.ifp ?_ (Ev.eqv (fun k => gradinelaw08_PowerBack.j0.eq_1 ..) (Ev.ifn ?_ (Ev.bind K1 (Ev.ifp ?_ (Ev.bind O (Ev.bind A (Ev.bind K2 (Ev.ifp ?_ (Ev.bind A1 (Ev.bind G (Ev.ifp ?_ (Ev.bind law08_same_c (Ev.same rfl)))))))))))))))))))))
    · rw [den]; rfl
    · rw [den]; decide
    · rw [den]; decide
    · have : S / D * D - S * 1 ≤ 0 := by omega
      unfold sgnI; split <;> (try split) <;> omega
    · have e3 : (S / D * 1 + 1 * 1) * D - S * (1 * 1) > 0 := by rw [Int.mul_one, Int.mul_one, Int.mul_one]; omega
      unfold sgnI; split <;> (try split) <;> omega
    · unfold sgnI; split <;> (try split) <;> omega
  · exact Ev.ifn h (Ev.bind law08_same_c (Ev.same rfl))
end Go.Proofs.Ytldcgclbgbhffaa.Pure
