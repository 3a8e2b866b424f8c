/- The reference's numbers moved up and down: the same numbers. -/
import Derived.Test.YtldcgclbgbhffaaC02r
import Derived.Test.YtldcgclbgbhffaaBgradineref02
namespace Go.Proofs.Ytldcgclbgbhffaa.M
open Go.RowKit Go.Proofs.Ytldcgclbgbhffaa.P Go.Proofs.YtldcgclbgbhffaaW.PrintWords Go.Proofs.YtldcgclbgbhffaaW.PrintLast Go.Proofs.YtldcgclbgbhffaaW.PrintMore
set_option linter.unusedVariables false

theorem rd_app_left {a b : List Int} {i : Nat} (h : i < a.length) : rd (a ++ b) (i : Int) = rd a (i : Int) := by
  unfold rd
  rw [List.getD_eq_getElem?_getD, List.getD_eq_getElem?_getD, Int.toNat_natCast, List.getElem?_append_left h]
theorem rd_app_right {a b : List Int} {i : Nat} (h : a.length ≤ i) : rd (a ++ b) (i : Int) = rd b ((i - a.length : Nat) : Int) := by
  unfold rd
  rw [List.getD_eq_getElem?_getD, List.getD_eq_getElem?_getD, Int.toNat_natCast, Int.toNat_natCast, List.getElem?_append_right h]
theorem rd_mid (a : List Int) (x : Int) (b : List Int) : rd (a ++ x :: b) (a.length : Int) = x := by
  rw [rd_app_right (Nat.le_refl _), Nat.sub_self]; rfl
theorem rd_mid1 (a : List Int) (x y : Int) (b : List Int) : rd (a ++ x :: y :: b) ((a.length + 1 : Nat) : Int) = y := by
  rw [rd_app_right (by omega), Nat.add_sub_cancel_left]; rfl
theorem set_mid (a : List Int) (x y : Int) (b : List Int) : (a ++ x :: b).set a.length y = a ++ y :: b := by
  rw [List.set_append_right _ _ (Nat.le_refl _), Nat.sub_self]; rfl
theorem rd_take {l : List Int} {i n : Nat} (h : i < n) : rd (l.take n) (i : Int) = rd l (i : Int) := by
  unfold rd
  rw [List.getD_eq_getElem?_getD, List.getD_eq_getElem?_getD, Int.toNat_natCast, List.getElem?_take_of_lt h]

/-! ### Up -/
theorem ref02_Shl_l2 {o : List Int} (ho : Wl o) (hl : o.length ≤ 999999999) {s : Nat} (hs : s ≤ 63) (hs0 : 1 ≤ s) (i : Nat) : ∀ T : List Int, i < o.length → T.length = o.length - (i + 1) → Ws T → nv (o.take (i + 1)) * 2 ^ s + Wp (i + 1) * (nv T - rd o (i : Int) / 2 ^ (64 - s)) = nv o * 2 ^ s →
    Ev (fun k => gradineref02_Shl.l2 k (o.take (i + 1) ++ T) (s : Int) (i : Int)) (dg (nv o * 2 ^ s)) := by
  have hp := pow_pos s
  have e64 : (64 - (s : Int)).toNat = 64 - s := by omega
  induction i with
  | zero =>
    intro T hi hT hwT he
    have hx := U_rd ho.1 ((0 : Nat) : Int)
    obtain ⟨w1, w2, w3, w4, w5⟩ := shl_word hx hs (c := 0) (by omega) hp
    have e0 : o.take (0 + 1) ++ T = [] ++ rd o ((0 : Nat) : Int) :: T := by rw [take_rd hi]; rfl
    refine Ev.step (fun k => gradineref02_Shl.l2.eq_2 ..) ?_
    refine Ev.ifn (by omega) (Ev.ifp (by rw [e0]; simp) ?_)
    rw [Int.toNat_natCast, e0]
    have er : rd ([] ++ rd o ((0 : Nat) : Int) :: T) 0 = rd o ((0 : Nat) : Int) := rd_mid [] _ T
    have es : ∀ v, ([] ++ rd o ((0 : Nat) : Int) :: T).set (0 : Int).toNat v = v :: T := fun v => rfl
    rw [er, es, wu]
    rw [take_rd hi, nv_snoc] at he
    simp only [List.take_zero, List.length_nil, Wp_zero, Wp_succ, nv, Int.zero_add, Int.one_mul, Int.mul_one] at he
    rw [Int.add_zero] at w5
    have hv : nv (rd o ((0 : Nat) : Int) * 2 ^ s % 18446744073709551616 :: T) = nv o * 2 ^ s := by
      rw [nv_cons]; omega
    rw [← hv]
    exact Ev.bind (ref02_Trim_c ⟨Ws_cons.2 ⟨w5, hwT⟩, by simp; omega⟩) (Ev.same rfl)
  | succ i ih =>
    intro T hi hT hwT he
    have hx := U_rd ho.1 ((i + 1 : Nat) : Int)
    have hy := U_rd ho.1 (i : Int)
    have q0 : 0 ≤ rd o (i : Int) / 2 ^ (64 - s) := Int.ediv_nonneg hy.1 (Int.le_of_lt (pow_pos _))
    have q1 : rd o (i : Int) / 2 ^ (64 - s) < 2 ^ s := by
      rw [Int.ediv_lt_iff_lt_mul (pow_pos _), Int.mul_comm, w_split (by omega)]; exact hy.2
    obtain ⟨w1, w2, w3, w4, w5⟩ := shl_word hx hs q0 q1
    have HE := Hd.mk he
    have W2 := Hd.mk w2
    clear he w2 w3 w4
    have ll : (o.take (i + 1)).length = i + 1 := by rw [List.length_take]; omega
    have e1 : o.take (i + 1 + 1) ++ T = o.take (i + 1) ++ rd o ((i + 1 : Nat) : Int) :: T := by rw [take_rd hi, List.append_assoc]; rfl
    have e2 : rd (o.take (i + 1) ++ rd o ((i + 1 : Nat) : Int) :: T) ((i + 1 : Nat) : Int) = rd o ((i + 1 : Nat) : Int) := by
      have := rd_mid (o.take (i + 1)) (rd o ((i + 1 : Nat) : Int)) T
      rwa [ll] at this
    have e3 : rd (o.take (i + 1) ++ rd o ((i + 1 : Nat) : Int) :: T) (i : Int) = rd o (i : Int) := by
      rw [rd_app_left (by omega), rd_take (by omega)]
    have e4 : ∀ v, (o.take (i + 1) ++ rd o ((i + 1 : Nat) : Int) :: T).set ((i + 1 : Nat) : Int).toNat v = o.take (i + 1) ++ v :: T := by
      intro v
      have := set_mid (o.take (i + 1)) (rd o ((i + 1 : Nat) : Int)) v T
      rwa [ll] at this
    have e5 : wrap64 (((i + 1 : Nat) : Int) - 1) = (i : Int) := by rw [w64_id (by omega) (by omega)]; omega
    have e6 : (o.take (i + 1) ++ rd o ((i + 1 : Nat) : Int) :: T).length = o.length := by rw [List.length_append, List.length_cons, ll, hT]; omega
    rw [e1]
    refine Ev.step (fun k => gradineref02_Shl.l2.eq_2 ..) ?_
    refine Ev.ifp (by omega) (Ev.ifp (by omega) (Ev.ifp (by rw [e6]; omega) ?_))
    rw [e5]
    refine Ev.ifp (by omega) (Ev.ifp (by rw [e6]; omega) ?_)
    rw [e2, e3, e4, e64, Int.toNat_natCast, w1]
    refine ih _ (by omega) (by rw [List.length_cons, hT]; omega) (Ws_cons.2 ⟨w5, hwT⟩) ?_
    rw [← HE.out, nv_cons, nv_take_succ hi, Wp_succ (i + 1)]
    have w2 := W2.out
    generalize rd o ((i + 1 : Nat) : Int) * 2 ^ s % 18446744073709551616 = r at *
    generalize rd o ((i + 1 : Nat) : Int) / 2 ^ (64 - s) = q at *
    generalize rd o (i : Int) / 2 ^ (64 - s) = p at *
    rw [Int.add_mul, Int.mul_assoc, w2]
    grind
theorem ref02_Shl_l1 {a : List Int} (ha : Wl a) (hla : a.length ≤ 900000000) {n m s : Nat} (hn : n = 64 * m + s) (hs : s ≤ 63) (hm : m ≤ 1024) (d : Nat) : ∀ i : Nat, i + d = a.length → Ev (fun k => gradineref02_Shl.l1 k a (n : Int) (List.replicate m 0 ++ a.take i) (a.length : Int) i) (dg (nv a * 2 ^ n)) := by
  induction d with
  | zero =>
    intro i hi
    have hw : Wl (List.replicate m 0 ++ a) := ⟨Ws_app.2 ⟨Ws_zeros _, ha.1⟩, by simp; omega⟩
    have hv : nv (List.replicate m 0 ++ a) = Wp m * nv a := by rw [nv_app, nv_zeros]; simp
    refine Ev.step (fun k => gradineref02_Shl.l1.eq_2 ..) ?_
    refine Ev.ifn (by omega) ?_
    rw [List.take_of_length_le (by omega)]
    by_cases h0 : s = 0
    · refine Ev.ifp (by omega) ?_
      have : nv a * 2 ^ n = nv (List.replicate m 0 ++ a) := by rw [hv, hn, h0, Nat.add_zero, ← Wp_two, Int.mul_comm]
      rw [this]
      exact Ev.bind (ref02_Trim_c hw) (Ev.same rfl)
    · have es : (n : Int) % 64 = (s : Int) := by omega
      rw [es]
      refine Ev.ifn (by omega) (Ev.ifp (by simp; omega) ?_)
      refine Ev.bindc rfl ?_
      have hlen : (List.replicate m 0 ++ a ++ [0]).length = m + a.length + 1 := by simp; omega
      have ew : wrap64 (((List.replicate m 0 ++ a ++ [(0 : Int)]).length : Int) - 1) = ((m + a.length : Nat) : Int) := by rw [hlen, w64_id (by omega) (by omega)]; omega
      rw [ew]
      have hwo : Wl (List.replicate m 0 ++ a ++ [0]) := ⟨Wl_snoc hw.1 (by unfold U; omega), by rw [hlen]; omega⟩
      have hvo : nv (List.replicate m 0 ++ a ++ [0]) = Wp m * nv a := by rw [nv_snoc, hv]; omega
      have h := ref02_Shl_l2 hwo (by rw [hlen]; omega) hs (by omega) (m + a.length) [] (by rw [hlen]; omega) (by rw [hlen]; simp) Ws_nil (by
        have hr : rd (List.replicate m 0 ++ a ++ [(0 : Int)]) ((m + a.length : Nat) : Int) = 0 := by
          have := rd_mid (List.replicate m 0 ++ a) (0 : Int) []
          rwa [show (List.replicate m (0 : Int) ++ a).length = m + a.length by simp] at this
        rw [hr, List.take_of_length_le (by rw [hlen]; omega)]
        simp [nv])
      rw [List.append_nil, List.take_of_length_le (by rw [hlen]; omega)] at h
      refine h.eqr ?_
      rw [hvo, hn, Int.pow_add, ← Wp_two]
      congr 1
      grind
  | succ d ih =>
    intro i hi
    have e : wrap64 ((i : Int) + 1) = ((i + 1 : Nat) : Int) := by rw [w64_id (by omega) (by omega)]; omega
    refine Ev.step (fun k => gradineref02_Shl.l1.eq_2 ..) ?_
    refine Ev.ifp (by omega) (Ev.ifp (by omega) (Ev.ifp (by omega) (Ev.ifp (by simp; omega) ?_)))
    rw [e, List.append_assoc, ← take_rd (by omega)]
    exact ih (i + 1) (by omega)
theorem ref02_Shl_l0 {a : List Int} (ha : Wl a) (hla : a.length ≤ 900000000) {n m s : Nat} (hn : n = 64 * m + s) (hs : s ≤ 63) (hm : m ≤ 1024) (d : Nat) : ∀ i : Nat, i + d = m → Ev (fun k => gradineref02_Shl.l0 k a (n : Int) (List.replicate i 0) (m : Int) i) (dg (nv a * 2 ^ n)) := by
  induction d with
  | zero =>
    intro i hi
    obtain rfl : i = m := by omega
    refine Ev.step (fun k => gradineref02_Shl.l0.eq_2 ..) ?_
    refine Ev.ifn (by omega) ?_
    have h := ref02_Shl_l1 ha hla hn hs hm a.length 0 (by omega)
    rwa [List.take_zero, List.append_nil] at h
  | succ d ih =>
    intro i hi
    have e : wrap64 ((i : Int) + 1) = ((i + 1 : Nat) : Int) := by rw [w64_id (by omega) (by omega)]; omega
    refine Ev.step (fun k => gradineref02_Shl.l0.eq_2 ..) ?_
    refine Ev.ifp (by omega) (Ev.ifp (by simp; omega) ?_)
    rw [e, ← List.replicate_succ']
    exact ih (i + 1) (by omega)
theorem ref02_Shl_c {a : List Int} (ha : Wl a) (hla : a.length ≤ 900000000) (n : Int) : Ev (fun k => gradineref02_Shl.f k a n) (dg (nv a * 2 ^ shn n)) := by
  have hs := shn_le n
  obtain ⟨b, m, hb, hm, hbm⟩ : ∃ b m : Nat, b ≤ 63 ∧ m ≤ 1024 ∧ shn n = 64 * m + b := ⟨shn n % 64, shn n / 64, by omega, by omega, by omega⟩
  unfold gradineref02_Shl.f
  rw [shn_eq, show (shn n : Int) / 64 = (m : Int) by omega]
  exact ref02_Shl_l0 ha hla hbm hb hm m 0 (by omega)

/-! ### Down -/
theorem ref02_Shr_l1 {o : List Int} (ho : Wl o) {s : Nat} (hs : s ≤ 63) (d : Nat) : ∀ (i : Nat) (R : List Int), i + d = o.length → R.length = i → Ws R → nv R + Wp i * (nv (o.drop i) / 2 ^ s) = nv o / 2 ^ s →
    Ev (fun k => gradineref02_Shr.l1 k (R ++ o.drop i) (s : Int) (o.length : Int) i) (dg (nv o / 2 ^ s)) := by
  have hol := ho.2
  have e64 : (64 - (s : Int)).toNat = 64 - s := by omega
  induction d with
  | zero =>
    intro i R hi hR hwR he
    refine Ev.step (fun k => gradineref02_Shr.l1.eq_2 ..) ?_
    refine Ev.ifn (by omega) ?_
    rw [List.drop_eq_nil_of_le (by omega)] at he ⊢
    simp [nv] at he
    rw [← he, List.append_nil]
    exact Ev.bind (ref02_Trim_c ⟨hwR, by omega⟩) (Ev.same rfl)
  | succ d ih =>
    intro i R hi hR hwR he
    have hx := U_rd ho.1 (i : Int)
    have hz := U_rd ho.1 ((i + 1 : Nat) : Int)
    rw [drop_rd (show i < o.length by omega)] at he ⊢
    rw [nv_cons] at he
    have HE := Hd.mk he
    clear he
    have e : wrap64 ((i : Int) + 1) = ((i + 1 : Nat) : Int) := by rw [w64_id (by omega) (by omega)]; omega
    have r1 : rd (R ++ rd o (i : Int) :: o.drop (i + 1)) (i : Int) = rd o (i : Int) := by rw [← hR]; exact rd_mid ..
    have s1 : ∀ v : Int, (R ++ rd o (i : Int) :: o.drop (i + 1)).set (i : Int).toNat v = R ++ v :: o.drop (i + 1) := fun v => by
      rw [Int.toNat_natCast, ← hR]; exact set_mid ..
    have r2 : ∀ v : Int, rd (R ++ v :: o.drop (i + 1)) (i : Int) = v := fun v => by rw [← hR]; exact rd_mid ..
    have s2 : ∀ v u : Int, (R ++ v :: o.drop (i + 1)).set (i : Int).toNat u = R ++ u :: o.drop (i + 1) := fun v u => by
      rw [Int.toNat_natCast, ← hR]; exact set_mid ..
    have l1 : ∀ v : Int, (R ++ v :: o.drop (i + 1)).length = o.length := fun v => by simp [hR]; omega
    refine Ev.step (fun k => gradineref02_Shr.l1.eq_2 ..) ?_
    refine Ev.ifp (by omega) (Ev.ifp (by omega) (Ev.ifp (by rw [l1]; omega) ?_))
    rw [r1, s1, e, Int.toNat_natCast, e64]
    refine Ev.bindc rfl ?_
    have next : ∀ w : Int, U w → (rd o (i : Int) + 18446744073709551616 * nv (o.drop (i + 1))) / 2 ^ s = w + 18446744073709551616 * (nv (o.drop (i + 1)) / 2 ^ s) → Ev (fun k => gradineref02_Shr.l1 k (R ++ w :: o.drop (i + 1)) (s : Int) (o.length : Int) ((i + 1 : Nat) : Int)) (dg (nv o / 2 ^ s)) := by
      intro w hw hq
      have h := ih (i + 1) (R ++ [w]) (by omega) (by rw [List.length_append, hR]; rfl) (Wl_snoc hwR hw) (by
        have he := HE.out
        rw [hq] at he
        rw [nv_snoc, hR, Wp_succ, ← he]
        grind)
      rwa [List.append_assoc] at h
    by_cases hn : ((i + 1 : Nat) : Int) < (o.length : Int)
    · obtain ⟨w1, w2, w3⟩ := shr_word (T := nv (o.drop (i + 1))) hx hz hs ⟨nv (o.drop (i + 1 + 1)), by rw [drop_rd (show i + 1 < o.length by omega), nv_cons]⟩
      have r3 : ∀ v : Int, rd (R ++ v :: o.drop (i + 1)) ((i + 1 : Nat) : Int) = rd o ((i + 1 : Nat) : Int) := fun v => by
        rw [drop_rd (show i + 1 < o.length by omega), ← hR]; exact rd_mid1 ..
      refine Ev.ifp (by rw [l1]; exact hn) (Ev.ifp (by omega) ?_)
      rw [r2, r3, s2]
      have hw : IntKind.u64.wrap (IntKind.u64.wrap (rd o ((i + 1 : Nat) : Int) * 2) * 2 ^ (63 - s)) = IntKind.u64.wrap (rd o ((i + 1 : Nat) : Int) * 2 ^ (64 - s)) := by
        rw [wu, wu, wu, mul_mod_left, Int.mul_assoc, show (2 : Int) * 2 ^ (63 - s) = 2 ^ (64 - s) by rw [show 64 - s = (63 - s) + 1 by omega, Int.pow_succ, Int.mul_comm]]
      rw [hw] at w1
      rw [w1]
      exact next _ w2 w3
    · obtain ⟨w1, w2, w3⟩ := shr_word0 (T := nv (o.drop (i + 1))) hx hs (by rw [List.drop_eq_nil_of_le (by omega)]; rfl)
      refine Ev.ifn (by rw [l1]; exact hn) ?_
      exact next _ w2 w3
theorem ref02_Shr_l0 {a : List Int} (ha : Wl a) {n m s : Nat} (hn : n = 64 * m + s) (hs : s ≤ 63) (d : Nat) : ∀ i : Nat, i + d = a.length → m ≤ i → Ev (fun k => gradineref02_Shr.l0 k a (n : Int) ((a.drop m).take (i - m)) i) (dg (nv a / 2 ^ n)) := by
  have hal := ha.2
  have hdiv : nv a / 2 ^ n = nv (a.drop m) / 2 ^ s := by
    have hp := Wp_pos m
    rw [hn, Int.pow_add, ← Wp_two, ← Int.ediv_ediv_of_nonneg (by omega), nv_div_Wp ha.1]
  induction d with
  | zero =>
    intro i hi hmi
    have hw : Wl (a.drop m) := ⟨Ws_drop ha.1 m, by simp; omega⟩
    refine Ev.step (fun k => gradineref02_Shr.l0.eq_2 ..) ?_
    refine Ev.ifn (by omega) ?_
    rw [List.take_of_length_le (by simp; omega), show (n : Int) % 64 = (s : Int) by omega, hdiv]
    by_cases h0 : s = 0
    · refine Ev.ifp (by omega) ?_
      rw [h0, Int.pow_zero, Int.ediv_one]
      exact Ev.bind (ref02_Trim_c hw) (Ev.same rfl)
    · refine Ev.ifn (by omega) ?_
      exact ref02_Shr_l1 hw hs (a.drop m).length 0 [] (by omega) rfl Ws_nil (by simp [nv, Wp_zero])
  | succ d ih =>
    intro i hi hmi
    have e : wrap64 ((i : Int) + 1) = ((i + 1 : Nat) : Int) := by rw [w64_id (by omega) (by omega)]; omega
    have e2 : (a.drop m).take (i - m) ++ [rd a (i : Int)] = (a.drop m).take (i + 1 - m) := by
      have h1 := take_rd (l := a.drop m) (i := i - m) (by simp; omega)
      have h2 : rd (a.drop m) ((i - m : Nat) : Int) = rd a (i : Int) := by
        unfold rd
        rw [List.getD_eq_getElem?_getD, List.getD_eq_getElem?_getD, Int.toNat_natCast, Int.toNat_natCast, List.getElem?_drop, show m + (i - m) = i by omega]
      rw [h2] at h1
      rw [sub_succ_of hmi, h1]
    refine Ev.step (fun k => gradineref02_Shr.l0.eq_2 ..) ?_
    refine Ev.ifp (by omega) (Ev.ifp (by omega) (Ev.ifp (by simp; omega) ?_))
    rw [e, e2]
    exact ih (i + 1) (by omega) (by omega)
theorem ref02_Shr_c {a : List Int} (ha : Wl a) {n : Int} (hn : n ≤ 9223372036854775807) : Ev (fun k => gradineref02_Shr.f k a n) (dg (nv a / 2 ^ n.toNat)) := by
  have hal := ha.2
  have hmx : mx n 0 = (n.toNat : Int) := by unfold mx; split <;> omega
  obtain ⟨b, m, hb, hbm⟩ : ∃ b m : Nat, b ≤ 63 ∧ n.toNat = 64 * m + b := ⟨n.toNat % 64, n.toNat / 64, by omega, by omega⟩
  have e1 : wrap64 ((n.toNat : Int) / 64) = (m : Int) := by rw [w64_id (by omega) (by omega)]; omega
  unfold gradineref02_Shr.f
  rw [hmx, e1]
  rcases Nat.lt_or_ge m a.length with h | h
  · have := ref02_Shr_l0 ha hbm hb (a.length - m) m (by omega) (Nat.le_refl _)
    rwa [Nat.sub_self, List.take_zero] at this
  · have hz : nv a / 2 ^ n.toNat = 0 := by
      have h1 := nv_lt ha.1
      have h2 := Wp_le h
      rw [hbm, Int.pow_add, ← Wp_two]
      have h3 := pow_pos b
      have h4 := Int.mul_le_mul_of_nonneg_left (show 1 ≤ (2 : Int) ^ b by omega) (Int.le_of_lt (Wp_pos m))
      exact Int.ediv_eq_zero_of_lt (nv_nonneg ha.1) (by omega)
    rw [hz]
    refine Ev.step (fun k => gradineref02_Shr.l0.eq_2 ..) ?_
    refine Ev.ifn (by omega) ?_
    by_cases h0 : (n.toNat : Int) % 64 = 0
    · exact Ev.ifp h0 (Ev.bind (ref02_Trim_c ⟨Ws_nil, by simp⟩) (Ev.same rfl))
    · refine Ev.ifn h0 (Ev.step (fun k => gradineref02_Shr.l1.eq_2 ..) (Ev.ifn (by simp) ?_))
      exact Ev.bind (ref02_Trim_c ⟨Ws_nil, by simp⟩) (Ev.same rfl)
end Go.Proofs.Ytldcgclbgbhffaa.M
