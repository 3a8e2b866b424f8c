/- What the steps of the long division answer: taking a multiple away, putting back, guessing a word. -/
import Derived.Test.YtldcgclbgbhffaaBquot
import Derived.Test.YtldcgclbgbhffaaC04w
namespace Go.Proofs.Ytldcgclbgbhffaa.M
open Go.RowKit Go.Proofs.Ytldcgclbgbhffaa.P Go.Proofs.YtldcgclbgbhffaaW.PrintWords Go.Proofs.YtldcgclbgbhffaaW.PrintLast Go.Proofs.YtldcgclbgbhffaaW.PrintMore
set_option linter.unusedVariables false

theorem quot_take_l {z0 d : List Int} (hd : Wl d) {j : Nat} {qh : Int} (hq : U qh) (hj : j + d.length < z0.length) (hz0 : z0.length ≤ 1000000000) (e : Nat) : ∀ (i : Nat) (z : List Int) (c b : Int), i + e = d.length → z.length = z0.length → Ws z → U c → 0 ≤ b → b ≤ 1 → nv z - Wp (j + i) * (c + b) = nv z0 - Wp j * (qh * nv (d.take i)) → (∀ p : Nat, j + d.length < p → rd z (p : Int) = rd z0 (p : Int)) →
    ∃ (z' : List Int) (b' : Int), Ev (fun k => quot_take.l0 k z d (j : Int) qh c b d (d.length : Int) i) (b' != 0, z') ∧ z'.length = z0.length ∧ Ws z' ∧ 0 ≤ b' ∧ b' ≤ 1 ∧ nv z' = nv z0 - Wp j * (qh * nv d) + Wp (j + d.length + 1) * b' ∧ (∀ p : Nat, j + d.length < p → rd z' (p : Int) = rd z0 (p : Int)) := by
  induction e with
  | zero =>
    intro i z c b hi hz hw hc hb0 hb1 he ha
    have HE := Hd.mk he
    clear he
    have ei : i = d.length := by omega
    have ew : wrap64 ((j : Int) + (d.length : Int)) = ((j + d.length : Nat) : Int) := by rw [w64_id (by omega) (by omega)]; omega
    have hx := U_rd hw ((j + d.length : Nat) : Int)
    have S := limb_Sub_c hx hc (c := b) (by unfold U; omega)
    have hval : nv (z.set (j + d.length) ((rd z ((j + d.length : Nat) : Int) - c - b) % 18446744073709551616)) = nv z0 - Wp j * (qh * nv d) + Wp (j + d.length + 1) * (-((rd z ((j + d.length : Nat) : Int) - c - b) / 18446744073709551616)) := by
      have he := HE.out
      rw [ei, List.take_length] at he
      rw [nv_set _ _ _ (by omega), Wp_succ]
      generalize rd z ((j + d.length : Nat) : Int) = x at *
      have hs : x - c - b = 18446744073709551616 * ((x - c - b) / 18446744073709551616) + (x - c - b) % 18446744073709551616 := by omega
      generalize (x - c - b) / 18446744073709551616 = q at *
      generalize (x - c - b) % 18446744073709551616 = r at *
      have hx' : x = 18446744073709551616 * q + r + c + b := by omega
      rw [hx']
      grind
    refine ⟨z.set (j + d.length) ((rd z ((j + d.length : Nat) : Int) - c - b) % 18446744073709551616), -((rd z ((j + d.length : Nat) : Int) - c - b) / 18446744073709551616), ?_, by rw [List.length_set, hz], Ws_set hw _ ?_, ?_, ?_, hval, ?_⟩
    · refine Ev.step (fun k => quot_take.l0.eq_2 ..) ?_
      rw [ew]
      refine Ev.ifn (by omega) (Ev.ifp (by omega) (Ev.ifp (by omega) (Ev.bindc S (Ev.same ?_))))
      rw [Int.toNat_natCast]
    · unfold U; omega
    · unfold U at hx hc; omega
    · unfold U at hx hc; omega
    · intro p hp
      rw [rd_set_ne (by omega)]
      exact ha p hp
  | succ e ih =>
    intro i z c b hi hz hw hc hb0 hb1 he ha
    have HE := Hd.mk he
    clear he
    have ew : wrap64 ((j : Int) + (i : Int)) = ((j + i : Nat) : Int) := by rw [w64_id (by omega) (by omega)]; omega
    have ew2 : wrap64 ((i : Int) + 1) = ((i + 1 : Nat) : Int) := by rw [w64_id (by omega) (by omega)]; omega
    have hx := U_rd hw ((j + i : Nat) : Int)
    have hy := U_rd hd.1 (i : Int)
    have M := limb_Mul_c hy hq
    have hP0 : 0 ≤ rd d (i : Int) * qh := Int.mul_nonneg hy.1 hq.1
    generalize hP : rd d (i : Int) * qh = P at *
    have hlo : U (P % 18446744073709551616) := by clear hP; unfold U; omega
    have A := limb_Add_c hlo hc (c := 0) (by unfold U; omega)
    have hbd : P / 18446744073709551616 + (P % 18446744073709551616 + c + 0) / 18446744073709551616 < 18446744073709551616 :=
      row_step (B := 18446744073709551616) (x := rd d (i : Int)) (y := qh) (s := 0) (c := c) (hi := P / 18446744073709551616) (lo := P % 18446744073709551616) (v := (P % 18446744073709551616 + c + 0) % 18446744073709551616) (ov := (P % 18446744073709551616 + c + 0) / 18446744073709551616) (by omega) hy.1 hy.2 hq.1 hq.2 (by omega) (by omega) hc.1 hc.2 (by rw [hP]; clear hP; omega) (by clear hP; omega) (by clear hP; omega) (by clear hP; omega)
    have HP := Hd.mk hP
    clear hP
    have hs1 : U ((P % 18446744073709551616 + c + 0) % 18446744073709551616) := by unfold U; omega
    have hc1 : U (P / 18446744073709551616 + (P % 18446744073709551616 + c + 0) / 18446744073709551616) := by unfold U at hc ⊢; omega
    have hcs : P + c = 18446744073709551616 * (P / 18446744073709551616 + (P % 18446744073709551616 + c + 0) / 18446744073709551616) + (P % 18446744073709551616 + c + 0) % 18446744073709551616 := by omega
    have S := limb_Sub_c hx hs1 (c := b) (by unfold U; omega)
    refine (?_ : ∃ (z' : List Int) (b' : Int), _)
    have ewu : IntKind.u64.wrap (P / 18446744073709551616 + (P % 18446744073709551616 + c + 0) / 18446744073709551616) = P / 18446744073709551616 + (P % 18446744073709551616 + c + 0) / 18446744073709551616 := wu_id hc1.1 hc1.2
    have st : ∀ {r : Bool × List Int}, Ev (fun k => quot_take.l0 k (z.set (j + i) ((rd z ((j + i : Nat) : Int) - (P % 18446744073709551616 + c + 0) % 18446744073709551616 - b) % 18446744073709551616)) d (j : Int) qh (P / 18446744073709551616 + (P % 18446744073709551616 + c + 0) / 18446744073709551616) (-((rd z ((j + i : Nat) : Int) - (P % 18446744073709551616 + c + 0) % 18446744073709551616 - b) / 18446744073709551616)) d (d.length : Int) ((i + 1 : Nat) : Int)) r → Ev (fun k => quot_take.l0 k z d (j : Int) qh c b d (d.length : Int) i) r := by
      intro r h
      refine Ev.step (fun k => quot_take.l0.eq_2 ..) ?_
      rw [ew, ew2]
      refine Ev.ifp (by omega) (Ev.ifp (by omega) (Ev.ifp (by omega) (Ev.bindc M (Ev.bindc A (Ev.ifp (by omega) (Ev.ifp (by omega) (Ev.bindc S ?_)))))))
      dsimp only
      rw [Int.toNat_natCast, ewu]
      exact h
    generalize P / 18446744073709551616 + (P % 18446744073709551616 + c + 0) / 18446744073709551616 = c' at *
    generalize (P % 18446744073709551616 + c + 0) % 18446744073709551616 = s at *
    clear M A S ew ew2 ewu hbd hlo
    have hxs : rd z ((j + i : Nat) : Int) - s - b = 18446744073709551616 * ((rd z ((j + i : Nat) : Int) - s - b) / 18446744073709551616) + (rd z ((j + i : Nat) : Int) - s - b) % 18446744073709551616 := by omega
    obtain ⟨z', b', h1, h2, h3, h4, h5, h6, h7⟩ := ih (i + 1) _ c' (-((rd z ((j + i : Nat) : Int) - s - b) / 18446744073709551616)) (by omega) (by rw [List.length_set, hz]) (Ws_set (p := j + i) (v := (rd z ((j + i : Nat) : Int) - s - b) % 18446744073709551616) hw (by unfold U; omega)) hc1 (by unfold U at hx hs1; omega) (by unfold U at hx hs1; omega) (by
        have he := HE.out
        have hp := HP.out
        rw [nv_set _ _ _ (by omega), nv_take_succ (by omega), ← Nat.add_assoc, Wp_succ]
        have hw2 := Wp_add j i
        generalize rd z ((j + i : Nat) : Int) = x at *
        generalize rd d (i : Int) = y at *
        generalize (x - s - b) / 18446744073709551616 = q at *
        generalize (x - s - b) % 18446744073709551616 = r at *
        have hx' : x = 18446744073709551616 * q + r + s + b := by omega
        have hs' : s = y * qh + c - 18446744073709551616 * c' := by omega
        rw [hx', hs']
        grind) (fun p hp => by rw [rd_set_ne (by omega)]; exact ha p hp)
    exact ⟨z', b', st h1, h2, h3, h4, h5, h6, h7⟩
theorem quot_take_c {z0 d : List Int} (hz : Ws z0) (hd : Wl d) {j : Nat} {qh : Int} (hq : U qh) (hj : j + d.length < z0.length) (hz0 : z0.length ≤ 1000000000) :
    ∃ (z' : List Int) (b' : Int), Ev (fun k => quot_take.f k z0 d (j : Int) qh) (b' != 0, z') ∧ z'.length = z0.length ∧ Ws z' ∧ 0 ≤ b' ∧ b' ≤ 1 ∧ nv z' = nv z0 - Wp j * (qh * nv d) + Wp (j + d.length + 1) * b' ∧ (∀ p : Nat, j + d.length < p → rd z' (p : Int) = rd z0 (p : Int)) :=
  quot_take_l hd hq hj hz0 d.length 0 z0 0 0 (by omega) rfl hz (by unfold U; omega) (by omega) (by omega) (by simp [nv]) (fun _ _ => rfl)
/-! ### Putting back -/
theorem quot_back_l {z0 d : List Int} (hd : Wl d) {j : Nat} (hj : j + d.length < z0.length) (hz0 : z0.length ≤ 1000000000) (e : Nat) : ∀ (i : Nat) (z : List Int) (c : Int), i + e = d.length → z.length = z0.length → Ws z → 0 ≤ c → c ≤ 1 → nv z + Wp (j + i) * c = nv z0 + Wp j * nv (d.take i) → (∀ p : Nat, j + d.length < p → rd z (p : Int) = rd z0 (p : Int)) →
    ∃ (z' : List Int) (o : Int), Ev (fun k => quot_back.l0 k z d (j : Int) c d (d.length : Int) i) z' ∧ z'.length = z0.length ∧ Ws z' ∧ 0 ≤ o ∧ o ≤ 1 ∧ nv z' = nv z0 + Wp j * nv d - Wp (j + d.length + 1) * o ∧ (∀ p : Nat, j + d.length < p → rd z' (p : Int) = rd z0 (p : Int)) := by
  induction e with
  | zero =>
    intro i z c hi hz hw hc hc1 he ha
    have HE := Hd.mk he
    clear he
    have ei : i = d.length := by omega
    have ew : wrap64 ((j : Int) + (d.length : Int)) = ((j + d.length : Nat) : Int) := by rw [w64_id (by omega) (by omega)]; omega
    have hx := U_rd hw ((j + d.length : Nat) : Int)
    have hval : nv (z.set (j + d.length) ((rd z ((j + d.length : Nat) : Int) + c) % 18446744073709551616)) = nv z0 + Wp j * nv d - Wp (j + d.length + 1) * ((rd z ((j + d.length : Nat) : Int) + c) / 18446744073709551616) := by
      have he := HE.out
      rw [ei, List.take_length] at he
      rw [nv_set _ _ _ (by omega), Wp_succ]
      generalize rd z ((j + d.length : Nat) : Int) = x at *
      have hs : x + c = 18446744073709551616 * ((x + c) / 18446744073709551616) + (x + c) % 18446744073709551616 := by omega
      generalize (x + c) / 18446744073709551616 = q at *
      generalize (x + c) % 18446744073709551616 = r at *
      have hx' : x = 18446744073709551616 * q + r - c := by omega
      rw [hx']
      grind
    refine ⟨z.set (j + d.length) ((rd z ((j + d.length : Nat) : Int) + c) % 18446744073709551616), (rd z ((j + d.length : Nat) : Int) + c) / 18446744073709551616, ?_, by rw [List.length_set, hz], Ws_set hw _ ?_, ?_, ?_, hval, ?_⟩
    · refine Ev.step (fun k => quot_back.l0.eq_2 ..) ?_
      rw [ew]
      refine Ev.ifn (by omega) (Ev.ifp (by omega) (Ev.ifp (by omega) (Ev.same ?_)))
      rw [Int.toNat_natCast, wu]
    · unfold U; omega
    · unfold U at hx; omega
    · unfold U at hx; omega
    · intro p hp
      rw [rd_set_ne (by omega)]
      exact ha p hp
  | succ e ih =>
    intro i z c hi hz hw hc hc1 he ha
    have HE := Hd.mk he
    clear he
    have ew : wrap64 ((j : Int) + (i : Int)) = ((j + i : Nat) : Int) := by rw [w64_id (by omega) (by omega)]; omega
    have ew2 : wrap64 ((i : Int) + 1) = ((i + 1 : Nat) : Int) := by rw [w64_id (by omega) (by omega)]; omega
    have hx := U_rd hw ((j + i : Nat) : Int)
    have hy := U_rd hd.1 (i : Int)
    have A := limb_Add_c hx hy (c := c) (by unfold U; omega)
    have st : ∀ {r : List Int}, Ev (fun k => quot_back.l0 k (z.set (j + i) ((rd z ((j + i : Nat) : Int) + rd d (i : Int) + c) % 18446744073709551616)) d (j : Int) ((rd z ((j + i : Nat) : Int) + rd d (i : Int) + c) / 18446744073709551616) d (d.length : Int) ((i + 1 : Nat) : Int)) r → Ev (fun k => quot_back.l0 k z d (j : Int) c d (d.length : Int) i) r := by
      intro r h
      refine Ev.step (fun k => quot_back.l0.eq_2 ..) ?_
      rw [ew, ew2]
      refine Ev.ifp (by omega) (Ev.ifp (by omega) (Ev.ifp (by omega) (Ev.ifp (by omega) (Ev.ifp (by omega) (Ev.bindc A ?_)))))
      dsimp only
      rw [Int.toNat_natCast]
      exact h
    clear A ew ew2
    obtain ⟨z', b', h1, h2, h3, h4, h5, h6, h7⟩ := ih (i + 1) _ ((rd z ((j + i : Nat) : Int) + rd d (i : Int) + c) / 18446744073709551616) (by omega) (by rw [List.length_set, hz]) (Ws_set (p := j + i) (v := (rd z ((j + i : Nat) : Int) + rd d (i : Int) + c) % 18446744073709551616) hw (by unfold U; omega))
      (by have := hx.1; have := hy.1; generalize rd z ((j + i : Nat) : Int) = x at *; generalize rd d (i : Int) = y at *; omega) (by have := hx.2; have := hy.2; generalize rd z ((j + i : Nat) : Int) = x at *; generalize rd d (i : Int) = y at *; omega) (by
        have he := HE.out
        rw [nv_set _ _ _ (by omega), nv_take_succ (by omega), ← Nat.add_assoc, Wp_succ]
        have hw2 := Wp_add j i
        generalize rd z ((j + i : Nat) : Int) = x at *
        generalize rd d (i : Int) = y at *
        have hq : x + y + c = 18446744073709551616 * ((x + y + c) / 18446744073709551616) + (x + y + c) % 18446744073709551616 := by omega
        generalize (x + y + c) / 18446744073709551616 = q at *
        generalize (x + y + c) % 18446744073709551616 = r at *
        have hc' : c = 18446744073709551616 * q + r - x - y := by omega
        rw [hc'] at he
        grind) (fun p hp => by rw [rd_set_ne (by omega)]; exact ha p hp)
    exact ⟨z', b', st h1, h2, h3, h4, h5, h6, h7⟩
theorem quot_back_c {z0 d : List Int} (hz : Ws z0) (hd : Wl d) {j : Nat} (hj : j + d.length < z0.length) (hz0 : z0.length ≤ 1000000000) :
    ∃ (z' : List Int) (o : Int), Ev (fun k => quot_back.f k z0 d (j : Int)) z' ∧ z'.length = z0.length ∧ Ws z' ∧ 0 ≤ o ∧ o ≤ 1 ∧ nv z' = nv z0 + Wp j * nv d - Wp (j + d.length + 1) * o ∧ (∀ p : Nat, j + d.length < p → rd z' (p : Int) = rd z0 (p : Int)) :=
  quot_back_l hd hj hz0 d.length 0 z0 0 (by omega) rfl hz (by omega) (by omega) (by simp [nv]) (fun _ _ => rfl)

/-! ### The guess -/
theorem quot_correct_s {t r1 r2 v1 v2 : Int} (ht : U t) (hr1 : U r1) (hr2 : U r2) (hv1 : U v1) (hv2 : U v2) {x : Int} (hx : U x) (hle : x * v1 ≤ t * 18446744073709551616 + r1) :
    (x * v2 ≤ (t * 18446744073709551616 + r1 - x * v1) * 18446744073709551616 + r2 → Ev (fun k => quot_correct.l0 k x t r1 r2 v1 v2) x) ∧
    (¬ x * v2 ≤ (t * 18446744073709551616 + r1 - x * v1) * 18446744073709551616 + r2 → ∀ y : Int, Ev (fun k => quot_correct.l0 k (x - 1) t r1 r2 v1 v2) y → Ev (fun k => quot_correct.l0 k x t r1 r2 v1 v2) y) := by
  have M1 := limb_Mul_c hx hv1
  have M2 := limb_Mul_c hx hv2
  have p0 : 0 ≤ x * v1 := Int.mul_nonneg hx.1 hv1.1
  have q0 : 0 ≤ x * v2 := Int.mul_nonneg hx.1 hv2.1
  have q1 := mul_bound (m := 18446744073709551615) (n := 18446744073709551615) hx.1 (Int.le_of_lt_add_one hx.2) hv2.1 (Int.le_of_lt_add_one hv2.2)
  have q2 : x * v2 ≤ 340282366920938463426481119284349108225 := Int.le_trans q1.2 (by decide)
  clear q1
  have x0 : x = 0 → x * v2 = 0 := fun h => by rw [h, Int.zero_mul]
  generalize x * v1 = P at *
  generalize x * v2 = Q at *
  have S1 := limb_Sub_c hr1 (b := P % 18446744073709551616) (by unfold U; omega) (c := 0) (by unfold U; omega)
  have hb : U (-((r1 - P % 18446744073709551616 - 0) / 18446744073709551616)) := by unfold U at *; omega
  have S2 := limb_Sub_c ht (b := P / 18446744073709551616) (by unfold U at *; omega) hb
  unfold U at ht hr1 hr2
  have e1 : (r1 - P % 18446744073709551616 - 0) % 18446744073709551616 = (t * 18446744073709551616 + r1 - P) % 18446744073709551616 := by omega
  have e2 : (t - P / 18446744073709551616 - -((r1 - P % 18446744073709551616 - 0) / 18446744073709551616)) % 18446744073709551616 = (t * 18446744073709551616 + r1 - P) / 18446744073709551616 := by omega
  have hrem : 0 ≤ t * 18446744073709551616 + r1 - P := by omega
  rw [e1] at S1
  rw [e2] at S2
  clear e1 e2 hb
  generalize t * 18446744073709551616 + r1 - P = m at *
  have go : ∀ y : Int, (Q ≤ m * 18446744073709551616 + r2 → y = x) → (¬ Q ≤ m * 18446744073709551616 + r2 → Ev (fun k => quot_correct.l0 k (IntKind.u64.wrap (x - 1)) t r1 r2 v1 v2) y) → Ev (fun k => quot_correct.l0 k x t r1 r2 v1 v2) y := by
    intro y yes no
    refine Ev.step (fun k => quot_correct.l0.eq_2 ..) ?_
    refine Ev.bindc M1 (Ev.bindc S1 (Ev.bindc S2 (Ev.bindc M2 ?_)))
    dsimp only
    by_cases c1 : m / 18446744073709551616 = 0
    · refine Ev.ifp c1 ?_
      by_cases c2 : Q / 18446744073709551616 < m % 18446744073709551616
      · exact Ev.ifp c2 (Ev.same (by rw [yes (by omega)]))
      · refine Ev.ifn c2 ?_
        by_cases c3 : Q / 18446744073709551616 = m % 18446744073709551616
        · refine Ev.ifp c3 ?_
          by_cases c4 : Q % 18446744073709551616 ≤ r2
          · exact Ev.ifp c4 (Ev.same (by rw [yes (by omega)]))
          · exact Ev.ifn c4 (no (by omega))
        · exact Ev.ifn c3 (no (by omega))
    · exact Ev.ifn c1 (Ev.same (by rw [yes (by omega)]))
  refine ⟨fun h => go x (fun _ => rfl) (fun h2 => absurd h h2), fun h y hy => go y (fun h2 => absurd h2 h) (fun _ => ?_)⟩
  have hx1 : 1 ≤ x := by
    rcases (show x = 0 ∨ 1 ≤ x by have := hx.1; omega) with h0 | h0
    · exfalso
      have := x0 h0
      omega
    · exact h0
  rw [wu_id (by omega) (by have := hx.2; omega)]
  exact hy
/-- What the guess finds, from a word that is no smaller: the largest word whose product with the two top words of the divisor is no more than the three top words. -/
theorem quot_correct_l {t r1 r2 v1 v2 : Int} (ht : U t) (hr1 : U r1) (hr2 : U r2) (hv1 : U v1) (hv2 : U v2) (n : Nat) : ∀ x : Int, x.toNat ≤ n → U x → x * v1 ≤ t * 18446744073709551616 + r1 →
    ∃ y : Int, Ev (fun k => quot_correct.l0 k x t r1 r2 v1 v2) y ∧ 0 ≤ y ∧ y ≤ x ∧ y * (v1 * 18446744073709551616 + v2) ≤ (t * 18446744073709551616 + r1) * 18446744073709551616 + r2 ∧ (y = x ∨ (t * 18446744073709551616 + r1) * 18446744073709551616 + r2 < (y + 1) * (v1 * 18446744073709551616 + v2)) := by
  have T0 : 0 ≤ t * 18446744073709551616 + r1 := by have := ht.1; have := hr1.1; omega
  have key : ∀ x : Int, x * (v1 * 18446744073709551616 + v2) = x * v1 * 18446744073709551616 + x * v2 := fun x => by grind
  induction n with
  | zero =>
    intro x hn hx hle
    have h0 : x = 0 := by have := hx.1; omega
    have h := (quot_correct_s ht hr1 hr2 hv1 hv2 hx hle).1 (by rw [h0, Int.zero_mul, Int.zero_mul]; have := hr2.1; omega)
    exact ⟨x, h, hx.1, Int.le_refl _, by rw [h0, Int.zero_mul]; have := hr2.1; omega, .inl rfl⟩
  | succ n ih =>
    intro x hn hx hle
    obtain ⟨s1, s2⟩ := quot_correct_s ht hr1 hr2 hv1 hv2 hx hle
    have hk := key x
    by_cases h : x * v2 ≤ (t * 18446744073709551616 + r1 - x * v1) * 18446744073709551616 + r2
    · exact ⟨x, s1 h, hx.1, Int.le_refl _, by rw [hk]; omega, .inl rfl⟩
    · have x0 : x = 0 → x * v2 = 0 ∧ x * v1 = 0 := fun h => by rw [h, Int.zero_mul, Int.zero_mul]; exact ⟨rfl, rfl⟩
      have hx1 : 1 ≤ x := by
        rcases (show x = 0 ∨ 1 ≤ x by have := hx.1; omega) with h0 | h0
        · exfalso
          have := x0 h0
          have := hr2.1
          omega
        · exact h0
      have hm : (x - 1) * v1 = x * v1 - v1 := by rw [Int.sub_mul, Int.one_mul]
      obtain ⟨y, h1, h2, h3, h4, h5⟩ := ih (x - 1) (by omega) ⟨by omega, by have := hx.2; omega⟩ (by rw [hm]; have := hv1.1; omega)
      refine ⟨y, s2 h y h1, h2, by omega, h4, .inr ?_⟩
      rcases h5 with h5 | h5
      · rw [h5, Int.sub_add_cancel, hk]; omega
      · exact h5
/-- The guess: no word is guessed too small. -/
theorem quot_guess_c {z : List Int} (hz : Ws z) (hl : z.length ≤ 1000000000) {p : Nat} (hp2 : 2 ≤ p) (hp : p < z.length) {v1 v2 : Int} (hv1 : U v1) (hv2 : U v2) (hv0 : 0 < v1) (htop : rd z (p : Int) ≤ v1) :
    ∃ y : Int, Ev (fun k => quot_guess.f k z (p : Int) v1 v2) y ∧ U y ∧
      y * (v1 * 18446744073709551616 + v2) ≤ (rd z (p : Int) * 18446744073709551616 + rd z ((p - 1 : Nat) : Int)) * 18446744073709551616 + rd z ((p - 2 : Nat) : Int) ∧
      (y = 18446744073709551615 ∨ (rd z (p : Int) * 18446744073709551616 + rd z ((p - 1 : Nat) : Int)) * 18446744073709551616 + rd z ((p - 2 : Nat) : Int) < (y + 1) * (v1 * 18446744073709551616 + v2)) := by
  have ht := U_rd hz (p : Int)
  have h1 := U_rd hz ((p - 1 : Nat) : Int)
  have h2 := U_rd hz ((p - 2 : Nat) : Int)
  have e1 : wrap64 ((p : Int) - 1) = ((p - 1 : Nat) : Int) := by rw [w64_id (by omega) (by omega)]; omega
  have e2 : wrap64 ((p : Int) - 2) = ((p - 2 : Nat) : Int) := by rw [w64_id (by omega) (by omega)]; omega
  have st : ∀ y : Int, (rd z (p : Int) ≥ v1 → Ev (fun k => quot_correct.l0 k 18446744073709551615 (rd z (p : Int)) (rd z ((p - 1 : Nat) : Int)) (rd z ((p - 2 : Nat) : Int)) v1 v2) y) →
      (¬ rd z (p : Int) ≥ v1 → Ev (fun k => quot_correct.l0 k ((rd z (p : Int) * 18446744073709551616 + rd z ((p - 1 : Nat) : Int)) / v1) (rd z (p : Int)) (rd z ((p - 1 : Nat) : Int)) (rd z ((p - 2 : Nat) : Int)) v1 v2) y) → Ev (fun k => quot_guess.f k z (p : Int) v1 v2) y := by
    intro y f1 f2
    unfold quot_guess.f
    rw [e1, e2]
    refine Ev.ifp (by omega) (Ev.ifp (by omega) (Ev.ifp (by omega) (Ev.ifp (by omega) (Ev.ifp (by omega) (Ev.ifp (by omega) ?_)))))
    by_cases h : rd z (p : Int) ≥ v1
    · exact Ev.ifp h (Ev.bind (f1 h) (Ev.same rfl))
    · exact Ev.ifn h (Ev.bind (limb_Div_c ht.1 (by omega) hv1.2 h1) (Ev.bind (f2 h) (Ev.same rfl)))
  clear e1 e2
  generalize rd z (p : Int) = t at *
  generalize rd z ((p - 1 : Nat) : Int) = r1 at *
  generalize rd z ((p - 2 : Nat) : Int) = r2 at *
  by_cases h : t ≥ v1
  · have et : t = v1 := by omega
    obtain ⟨y, y1, y2, y3, y4, y5⟩ := quot_correct_l ht h1 h2 hv1 hv2 18446744073709551615 18446744073709551615 (by decide) (by unfold U; omega) (by have := h1.1; omega)
    exact ⟨y, st y (fun _ => y1) (fun h2 => absurd h h2), ⟨y2, by omega⟩, y4, y5⟩
  · have hx0 : 0 ≤ (t * 18446744073709551616 + r1) / v1 := Int.ediv_nonneg (by have := ht.1; have := h1.1; omega) (by omega)
    have hD := Int.mul_ediv_add_emod (t * 18446744073709551616 + r1) v1
    have hm0 := Int.emod_nonneg (t * 18446744073709551616 + r1) (show v1 ≠ 0 by omega)
    have hm1 := Int.emod_lt_of_pos (t * 18446744073709551616 + r1) hv0
    have hx1 : (t * 18446744073709551616 + r1) / v1 < 18446744073709551616 := by
      rw [Int.ediv_lt_iff_lt_mul hv0]
      have := h1.2
      have h3 : (t + 1) * 18446744073709551616 ≤ v1 * 18446744073709551616 := Int.mul_le_mul_of_nonneg_right (by omega) (by omega)
      omega
    generalize hx : (t * 18446744073709551616 + r1) / v1 = x at *
    rw [Int.mul_comm] at hD
    obtain ⟨y, y1, y2, y3, y4, y5⟩ := quot_correct_l ht h1 h2 hv1 hv2 x.toNat x (Nat.le_refl _) ⟨hx0, hx1⟩ (by omega)
    refine ⟨y, st y (fun h2 => absurd h2 h) (fun _ => y1), ⟨y2, by omega⟩, y4, .inr ?_⟩
    rcases y5 with y5 | y5
    · have h3 : t * 18446744073709551616 + r1 + 1 ≤ (y + 1) * v1 := by rw [y5, Int.add_mul, Int.one_mul]; omega
      have h4 : (y + 1) * (v1 * 18446744073709551616 + v2) = (y + 1) * v1 * 18446744073709551616 + (y + 1) * v2 := by grind
      have h5 : 0 ≤ (y + 1) * v2 := Int.mul_nonneg (by omega) hv2.1
      have := h2.2
      rw [h4]
      generalize (y + 1) * v1 = e at *
      generalize (y + 1) * v2 = f at *
      omega
    · exact y5
end Go.Proofs.Ytldcgclbgbhffaa.M
