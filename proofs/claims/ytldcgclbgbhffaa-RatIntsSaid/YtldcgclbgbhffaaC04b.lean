/- What the long division answers. -/
import Derived.Test.YtldcgclbgbhffaaBquot
import Derived.Test.YtldcgclbgbhffaaC04
import Derived.Test.YtldcgclbgbhffaaC03
namespace Go.Proofs.Ytldcgclbgbhffaa.M
open Go.RowKit Go.Proofs.Ytldcgclbgbhffaa.P Go.Proofs.YtldcgclbgbhffaaW.PrintWords Go.Proofs.YtldcgclbgbhffaaW.PrintLast Go.Proofs.YtldcgclbgbhffaaW.PrintMore
set_option linter.unusedVariables false

theorem nv_zero_of : ∀ {l : List Int}, Ws l → nv l = 0 → ∀ p : Nat, rd l (p : Int) = 0
  | [], _, _, p => by unfold rd; simp
  | x :: t, h, h0, p => by
    obtain ⟨hx, ht⟩ := Ws_cons.1 h
    have hn := nv_nonneg ht
    rw [nv_cons] at h0
    have := hx.1
    cases p with
    | zero => show x = 0; omega
    | succ p =>
      have e : rd (x :: t) ((p + 1 : Nat) : Int) = rd t (p : Int) := by unfold rd; simp
      rw [e]; exact nv_zero_of ht (by omega) p
theorem nv_zero_if : ∀ {l : List Int}, (∀ p : Nat, rd l (p : Int) = 0) → nv l = 0
  | [], _ => rfl
  | x :: t, h => by
    have h0 : x = 0 := h 0
    have ht : nv t = 0 := nv_zero_if fun p => by
      have e : rd (x :: t) ((p + 1 : Nat) : Int) = rd t (p : Int) := by unfold rd; simp
      rw [← e]; exact h (p + 1)
    rw [nv_cons, h0, ht]; rfl
theorem rd_drop (l : List Int) (k p : Nat) : rd (l.drop k) (p : Int) = rd l ((k + p : Nat) : Int) := by
  unfold rd
  rw [List.getD_eq_getElem?_getD, List.getD_eq_getElem?_getD, Int.toNat_natCast, Int.toNat_natCast, List.getElem?_drop]
theorem above_zero {l : List Int} (h : Ws l) {k : Nat} (hlt : nv l < Wp k) : ∀ p : Nat, k ≤ p → rd l (p : Int) = 0 := by
  intro p hp
  have h1 := nv_div_Wp h k
  rw [Int.ediv_eq_zero_of_lt (nv_nonneg h) hlt] at h1
  have h2 := nv_zero_of (Ws_drop h k) h1.symm (p - k)
  rw [rd_drop, show k + (p - k) = p by omega] at h2
  exact h2
theorem below_of {l : List Int} (h : Ws l) {k : Nat} (h0 : ∀ p : Nat, k ≤ p → rd l (p : Int) = 0) : nv l < Wp k := by
  have h1 : nv (l.drop k) = 0 := nv_zero_if fun p => by rw [rd_drop]; exact h0 _ (by omega)
  have h2 := nv_div_Wp h k
  rw [h1] at h2
  have h3 := Int.mul_ediv_add_emod (nv l) (Wp k)
  have h4 := Int.emod_lt_of_pos (nv l) (Wp_pos k)
  rw [h2] at h3
  omega
theorem knuth {J K D R T v low dl y : Int} (hJ : 0 < J) (hK : 0 < K) (hR : R = T * (J * K) + low) (hl0 : 0 ≤ low) (hl1 : low < J * K) (hD : D = v * K + dl) (hd0 : 0 ≤ dl) (hd1 : dl < K) (hv : 18446744073709551616 ≤ v) (hy0 : 0 ≤ y) (hy1 : y < 18446744073709551616)
    (h1 : y * v ≤ T) (h2 : y = 18446744073709551615 ∨ T < (y + 1) * v) (h3 : R < D * J * 18446744073709551616) : R < J * (D * (y + 1)) ∧ J * (D * (y - 1)) ≤ R := by
  have hJK : 0 < J * K := Int.mul_pos hJ hK
  have hvD : v * K ≤ D := by omega
  have hT0 : 0 ≤ T := Int.le_trans (Int.mul_nonneg hy0 (by omega)) h1
  constructor
  · rcases h2 with h2 | h2
    · rw [h2, show J * (D * (18446744073709551615 + 1)) = D * J * 18446744073709551616 by grind]; exact h3
    · have a1 : (T + 1) * (J * K) ≤ (y + 1) * v * (J * K) := Int.mul_le_mul_of_nonneg_right (by omega) (Int.le_of_lt hJK)
      have a2 : J * (y + 1) * (v * K) ≤ J * (y + 1) * D := Int.mul_le_mul_of_nonneg_left hvD (Int.mul_nonneg (Int.le_of_lt hJ) (by omega))
      have a3 : (y + 1) * v * (J * K) = J * (y + 1) * (v * K) := by grind
      have a4 : J * (D * (y + 1)) = J * (y + 1) * D := by grind
      rw [Int.add_mul, Int.one_mul] at a1
      omega
  · have r0 : 0 ≤ R := by have := Int.mul_nonneg hT0 (Int.le_of_lt hJK); omega
    rcases (show y = 0 ∨ 1 ≤ y by omega) with h | h
    · have hD0 : 0 ≤ D := by have := Int.mul_nonneg (show 0 ≤ v by omega) (Int.le_of_lt hK); omega
      have : J * (D * (y - 1)) = -(J * D) := by rw [h]; grind
      have h5 := Int.mul_nonneg (Int.le_of_lt hJ) hD0
      omega
    · have b1 : D ≤ (v + 1) * K := by rw [Int.add_mul, Int.one_mul]; omega
      have b2 : (y - 1) * D ≤ (y - 1) * ((v + 1) * K) := Int.mul_le_mul_of_nonneg_left b1 (by omega)
      have b3 : (y - 1) * (v + 1) ≤ y * v := by
        have : (y - 1) * (v + 1) = y * v - v + y - 1 := by grind
        omega
      have b4 : (y - 1) * (v + 1) * K ≤ T * K := Int.mul_le_mul_of_nonneg_right (Int.le_trans b3 h1) (Int.le_of_lt hK)
      have b5 : (y - 1) * D ≤ T * K := by rw [← Int.mul_assoc] at b2; omega
      have b6 := Int.mul_le_mul_of_nonneg_left b5 (Int.le_of_lt hJ)
      have b7 : J * (D * (y - 1)) = J * ((y - 1) * D) := by rw [Int.mul_comm D]
      have b8 : J * (T * K) = T * (J * K) := by grind
      omega
theorem top_three {l : List Int} (h : Ws l) {p : Nat} (h2 : 2 ≤ p) (hp : p < l.length) (hz : nv l < Wp (p + 1)) :
    ∃ low : Int, 0 ≤ low ∧ low < Wp (p - 2) ∧ nv l = ((rd l (p : Int) * 18446744073709551616 + rd l ((p - 1 : Nat) : Int)) * 18446744073709551616 + rd l ((p - 2 : Nat) : Int)) * Wp (p - 2) + low := by
  refine ⟨nv (l.take (p - 2)), nv_nonneg (Ws_take h _), ?_, ?_⟩
  · have := nv_lt (Ws_take h (p - 2))
    rwa [List.length_take, Nat.min_eq_left (by omega)] at this
  · have h0 : nv (l.drop (p + 1)) = 0 := nv_zero_if fun q => by rw [rd_drop]; exact above_zero h hz _ (by omega)
    have e1 := drop_rd (l := l) (i := p - 2) (by omega)
    have e2 := drop_rd (l := l) (i := p - 1) (by omega)
    have e3 := drop_rd (l := l) (i := p) hp
    have e4 := nv_split' l (p - 2)
    rw [e1, show p - 2 + 1 = p - 1 by omega, e2, show p - 1 + 1 = p by omega, e3, nv_cons, nv_cons, nv_cons, h0] at e4
    rw [e4]
    grind
theorem top_two {l : List Int} (h : Ws l) (h2 : 2 ≤ l.length) :
    ∃ low : Int, 0 ≤ low ∧ low < Wp (l.length - 2) ∧ nv l = (rd l ((l.length - 1 : Nat) : Int) * 18446744073709551616 + rd l ((l.length - 2 : Nat) : Int)) * Wp (l.length - 2) + low := by
  refine ⟨nv (l.take (l.length - 2)), nv_nonneg (Ws_take h _), ?_, ?_⟩
  · have := nv_lt (Ws_take h (l.length - 2))
    rwa [List.length_take, Nat.min_eq_left (by omega)] at this
  · have e1 := drop_rd (l := l) (i := l.length - 2) (by omega)
    have e2 := drop_rd (l := l) (i := l.length - 1) (by omega)
    have e4 := nv_split' l (l.length - 2)
    rw [e1, show l.length - 2 + 1 = l.length - 1 by omega, e2, show l.length - 1 + 1 = l.length by omega, List.drop_length, nv_cons, nv_cons] at e4
    rw [e4]
    show _ + _ * (_ + 18446744073709551616 * (_ + 18446744073709551616 * 0)) = _
    grind
/-- One turn of the long division: the word, what is left. -/
theorem quot_long_turn {d : List Int} (hd : Wl d) (hn : 2 ≤ d.length) (hv : 9223372036854775808 ≤ rd d ((d.length - 1 : Nat) : Int)) {j : Nat} {r : List Int} (hr : Ws r) (hlen : j + d.length < r.length) (hmax : r.length ≤ 1000000000) (hlt : nv r < nv d * Wp (j + 1)) :
    ∃ (y : Int), (Ev (fun k => quot_guess.f k r ((j + d.length : Nat) : Int) (rd d ((d.length - 1 : Nat) : Int)) (rd d ((d.length - 2 : Nat) : Int))) y) ∧
      ((∃ r' : List Int, Ev (fun k => quot_take.f k r d (j : Int) y) (false, r') ∧ r'.length = r.length ∧ Ws r' ∧ U y ∧ nv r = nv r' + Wp j * (y * nv d) ∧ nv r' < nv d * Wp j) ∨
       (∃ z r' : List Int, Ev (fun k => quot_take.f k r d (j : Int) y) (true, z) ∧ Ev (fun k => quot_back.f k z d (j : Int)) r' ∧ r'.length = r.length ∧ Ws r' ∧ 1 ≤ y ∧ U y ∧ nv r = nv r' + Wp j * ((y - 1) * nv d) ∧ nv r' < nv d * Wp j)) := by
  have hD := nv_lt hd.1
  have hJ := Wp_pos j
  have hR0 := nv_nonneg hr
  have hD0 := nv_nonneg hd.1
  have hRlt : nv r < Wp (j + d.length + 1) := by
    have h1 : nv d * Wp (j + 1) ≤ Wp d.length * Wp (j + 1) := Int.mul_le_mul_of_nonneg_right (Int.le_of_lt hD) (Int.le_of_lt (Wp_pos _))
    rw [← Wp_add, show d.length + (j + 1) = j + d.length + 1 by omega] at h1
    omega
  obtain ⟨low, hl0, hl1, hlR⟩ := top_three hr (p := j + d.length) (by omega) hlen hRlt
  obtain ⟨dl, hd0, hd1, hdD⟩ := top_two hd.1 hn
  have hv1 := U_rd hd.1 ((d.length - 1 : Nat) : Int)
  have hv2 := U_rd hd.1 ((d.length - 2 : Nat) : Int)
  have hK := Wp_pos (d.length - 2)
  have hWJK : Wp (j + d.length - 2) = Wp j * Wp (d.length - 2) := by rw [← Wp_add]; congr 1; omega
  have htop : rd r ((j + d.length : Nat) : Int) ≤ rd d ((d.length - 1 : Nat) : Int) := by
    have hx2 := (U_rd hr ((j + d.length - 1 : Nat) : Int)).1
    have hx3 := (U_rd hr ((j + d.length - 2 : Nat) : Int)).1
    have h1 : (nv r) < (rd d ((d.length - 1 : Nat) : Int) * 18446744073709551616 + rd d ((d.length - 2 : Nat) : Int) + 1) * Wp (d.length - 2) * Wp (j + 1) := by
      refine Int.lt_of_lt_of_le hlt (Int.mul_le_mul_of_nonneg_right ?_ (Int.le_of_lt (Wp_pos _)))
      rw [hdD, Int.add_mul (_ * _ + _) 1, Int.one_mul]; omega
    have h2 : (rd d ((d.length - 1 : Nat) : Int) * 18446744073709551616 + rd d ((d.length - 2 : Nat) : Int) + 1) * Wp (d.length - 2) * Wp (j + 1) = (rd d ((d.length - 1 : Nat) : Int) * 18446744073709551616 + rd d ((d.length - 2 : Nat) : Int) + 1) * 18446744073709551616 * Wp (j + d.length - 2) := by
      rw [hWJK, Wp_succ]; grind
    have h3 : ((rd r ((j + d.length : Nat) : Int) * 18446744073709551616 + rd r ((j + d.length - 1 : Nat) : Int)) * 18446744073709551616 + rd r ((j + d.length - 2 : Nat) : Int)) * Wp (j + d.length - 2) < (rd d ((d.length - 1 : Nat) : Int) * 18446744073709551616 + rd d ((d.length - 2 : Nat) : Int) + 1) * 18446744073709551616 * Wp (j + d.length - 2) := by
      rw [← h2]; omega
    have h4 := Int.lt_of_mul_lt_mul_right h3 (Int.le_of_lt (Wp_pos _))
    have := hv2.2
    clear h1 h2 h3 hlt hlR hdD hl1 hd1 hWJK hRlt
    generalize rd r ((j + d.length : Nat) : Int) = a at *
    generalize rd r ((j + d.length - 1 : Nat) : Int) = b at *
    generalize rd r ((j + d.length - 2 : Nat) : Int) = c at *
    generalize rd d ((d.length - 1 : Nat) : Int) = e at *
    generalize rd d ((d.length - 2 : Nat) : Int) = f at *
    omega
  obtain ⟨y, g1, g2, g3, g4⟩ := quot_guess_c hr hmax (p := j + d.length) (by omega) hlen hv1 hv2 (by omega) htop
  obtain ⟨k1, k2⟩ := knuth hJ hK (R := nv r) (D := nv d) (by rw [← hWJK]; exact hlR) hl0 (by rw [← hWJK]; exact hl1) hdD hd0 hd1 (by have := hv2.1; omega) g2.1 g2.2 g3 g4 (by
    have : nv d * Wp j * 18446744073709551616 = nv d * Wp (j + 1) := by rw [Wp_succ]; grind
    rw [this]; exact hlt)
  obtain ⟨z, b, t1, t2, t3, t4, t5, t6, t7⟩ := quot_take_c hr hd g2 hlen hmax
  have zlt := below_of t3 (k := j + d.length + 1) (fun p hp => by rw [t7 p (by omega)]; exact above_zero hr hRlt p hp)
  have z0 := nv_nonneg t3
  refine ⟨y, g1, ?_⟩
  have hyD : Wp j * (nv d * (y + 1)) = Wp j * (y * nv d) + nv d * Wp j := by grind
  have hyD2 : Wp j * (nv d * (y - 1)) = Wp j * (y * nv d) - Wp j * nv d := by grind
  have hcomm : nv d * Wp j = Wp j * nv d := Int.mul_comm _ _
  rcases (show b = 0 ∨ b = 1 by omega) with hb | hb
  · subst hb
    rw [Int.mul_zero, Int.add_zero] at t6
    exact .inl ⟨z, t1, t2, t3, g2, by omega, by omega⟩
  · subst hb
    obtain ⟨r', o, s1, s2, s3, s4, s5, s6, s7⟩ := quot_back_c t3 hd (by rw [t2]; exact hlen) (by omega)
    have rlt := below_of s3 (k := j + d.length + 1) (fun p hp => by rw [s7 p (by omega), t7 p (by omega)]; exact above_zero hr hRlt p hp)
    have r0 := nv_nonneg s3
    have ho : o = 1 := by
      rcases (show o = 0 ∨ o = 1 by omega) with h | h
      · subst h; omega
      · exact h
    subst ho
    have hy1 : 1 ≤ y := by
      rcases (show y = 0 ∨ 1 ≤ y by have := g2.1; omega) with h | h
      · exfalso
        have : Wp j * (y * nv d) = 0 := by rw [h, Int.zero_mul, Int.mul_zero]
        omega
      · exact h
    have hyD3 : Wp j * ((y - 1) * nv d) = Wp j * (y * nv d) - Wp j * nv d := by rw [← hyD2, Int.mul_comm (nv d)]
    exact .inr ⟨z, r', t1, s1, by omega, s3, hy1, g2, by omega, by omega⟩
theorem quot_long_l1 {d : List Int} (hd : Wl d) (hn : 2 ≤ d.length) (hv : 9223372036854775808 ≤ rd d ((d.length - 1 : Nat) : Int)) {s : Nat} (hs : s ≤ 63) {A : Int} (m : Nat) : ∀ (r Q : List Int), Ws r → m + d.length ≤ r.length → r.length ≤ 1000000000 → Ws Q → m + Q.length ≤ 1000000000 → nv r < nv d * Wp m → A = nv r + Wp m * (nv Q * nv d) → ∀ i : Int, i = (m : Int) - 1 →
    Ev (fun k => quot_long.l1 k (s : Int) d r (d.length : Int) (List.replicate m 0 ++ Q) i) (dg (A / nv d), dg (A % nv d / 2 ^ s)) := by
  induction m with
  | zero =>
    intro r Q hr hl hmax hQ hQl hlt he i hi
    have r0 := nv_nonneg hr
    rw [Wp_zero, Int.mul_one] at hlt
    rw [Wp_zero, Int.one_mul] at he
    have hq : A / nv d = nv Q := by rw [he, Int.mul_comm, Int.add_mul_ediv_left _ _ (by omega), Int.ediv_eq_zero_of_lt r0 hlt]; omega
    have hm : A % nv d = nv r := by rw [he, Int.mul_comm, Int.add_mul_emod_self_left, Int.emod_eq_of_lt r0 hlt]
    have S := nat_Shr_c (a := r) ⟨hr, hmax⟩ (n := (s : Int)) (by omega)
    rw [Int.toNat_natCast] at S
    refine Ev.step (fun k => quot_long.l1.eq_2 ..) ?_
    rw [hq, hm]
    exact Ev.ifn (by omega) (Ev.bind (nat_Trim_c (l := Q) ⟨hQ, by omega⟩) (Ev.bind S (Ev.same rfl)))
  | succ j ih =>
    intro r Q hr hl hmax hQ hQl hlt he i hi
    have ei : i = (j : Int) := by omega
    subst ei
    have HE := Hd.mk he
    have HL := Hd.mk hlt
    have HV := Hd.mk hv
    clear he hlt hv
    have e1 : wrap64 ((d.length : Int) - 1) = ((d.length - 1 : Nat) : Int) := by rw [w64_id (by omega) (by omega)]; omega
    have e2 : wrap64 ((d.length : Int) - 2) = ((d.length - 2 : Nat) : Int) := by rw [w64_id (by omega) (by omega)]; omega
    have e3 : wrap64 ((j : Int) + (d.length : Int)) = ((j + d.length : Nat) : Int) := by rw [w64_id (by omega) (by omega)]; omega
    have e4 : wrap64 ((j : Int) - 1) = (j : Int) - 1 := w64_id (by omega) (by omega)
    have er : List.replicate (j + 1) 0 ++ Q = List.replicate j 0 ++ (0 : Int) :: Q := by rw [List.replicate_succ', List.append_assoc]; rfl
    have es : ∀ v, (List.replicate j 0 ++ (0 : Int) :: Q).set (j : Int).toNat v = List.replicate j 0 ++ v :: Q := fun v => by
      have := set_mid (List.replicate j 0) 0 v Q
      rw [List.length_replicate] at this
      rw [Int.toNat_natCast]; exact this
    have el : (List.replicate j 0 ++ (0 : Int) :: Q).length = j + 1 + Q.length := by rw [List.length_append, List.length_replicate, List.length_cons]; omega
    obtain ⟨y, g, h⟩ := quot_long_turn hd hn HV.out hr (j := j) (by omega) hmax HL.out
    refine Ev.step (fun k => quot_long.l1.eq_2 ..) ?_
    rw [e1, e2, e3, e4, er]
    refine Ev.ifp (by omega) (Ev.ifp (by omega) (Ev.ifp (by omega) (Ev.ifp (by omega) (Ev.ifp (by omega) (Ev.bind g ?_)))))
    have hval : ∀ (q v : Int), nv r = v + Wp j * (q * nv d) → A = v + Wp j * (nv (q :: Q) * nv d) := by
      intro q v hv2
      rw [HE.out, hv2, nv_cons, Wp_succ]
      grind
    rcases h with ⟨r', t1, t2, t3, t4, t5, t6⟩ | ⟨z, r', t1, b1, t2, t3, t0, t4, t5, t6⟩
    · have h2 := ih r' (y :: Q) t3 (by omega) (by omega) (Ws_cons.2 ⟨t4, hQ⟩) (by rw [List.length_cons]; omega) t6 (hval _ _ t5) _ rfl
      refine Ev.bind t1 (Ev.ifn (by simp) (Ev.ifp (by omega) (Ev.ifp (by rw [el]; omega) ?_)))
      rw [es]
      exact h2
    · have h2 := ih r' ((y - 1) :: Q) t3 (by omega) (by omega) (Ws_cons.2 ⟨⟨by omega, by have := t4.2; omega⟩, hQ⟩) (by rw [List.length_cons]; omega) t6 (hval _ _ t5) _ rfl
      refine Ev.bind t1 (Ev.ifp rfl (Ev.bind b1 (Ev.ifp (by omega) (Ev.ifp (by rw [el]; omega) ?_))))
      rw [es, wu_id (by omega) (by have := t4.2; omega)]
      exact h2
end Go.Proofs.Ytldcgclbgbhffaa.M
