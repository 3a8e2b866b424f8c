/- What the functions of prod answer: a number times a word, and products, by rows and by halves. -/
import Derived.Test.YtldcgclbgbhffaaM2
import Derived.Test.YtldcgclbgbhffaaBprod
namespace Go.Proofs.Ytldcgclbgbhffaa.M
open Go.RowKit Go.Proofs.Ytldcgclbgbhffaa.P Go.Proofs.YtldcgclbgbhffaaW.PrintWords Go.Proofs.YtldcgclbgbhffaaW.PrintLast Go.Proofs.YtldcgclbgbhffaaW.PrintMore
set_option linter.unusedVariables false

theorem prod_Word_l {a : List Int} (ha : Wl a) (hla : a.length ≤ 999999999) {x y : Int} (hx : U x) (hy : U y) (d : Nat) : ∀ (i : Nat) (out : List Int) (c : Int), i + d = a.length → out.length = i → Ws out → U c → nv out + Wp i * c = nv (a.take i) * x + y →
    Ev (fun k => prod_Word.l0 k x c out a (a.length : Int) i) (dg (nv a * x + y)) := by
  induction d with
  | zero =>
    intro i out c hi hlo hwo hc he
    refine Ev.step (fun k => prod_Word.l0.eq_2 ..) ?_
    refine Ev.ifn (by omega) (Ev.ifp (by omega) ?_)
    rw [List.take_of_length_le (by omega)] at he
    rw [← he, ← hlo, ← nv_snoc]
    exact Ev.bind (nat_Trim_c ⟨Wl_snoc hwo hc, by simp; omega⟩) (Ev.same rfl)
  | succ d ih =>
    intro i out c hi hlo hwo hc he
    have HE := Hd.mk he
    clear he
    have hw := U_rd ha.1 (i : Int)
    have e : wrap64 ((i : Int) + 1) = ((i + 1 : Nat) : Int) := by rw [w64_id (by omega) (by omega)]; omega
    refine Ev.step (fun k => prod_Word.l0.eq_2 ..) ?_
    refine Ev.ifp (by omega) (Ev.ifp (by omega) (Ev.ifp (by omega) (Ev.bindc (limb_Mul_c hw hx) ?_)))
    generalize hP : rd a (i : Int) * x = P
    have hlo' : U (P % 18446744073709551616) := by unfold U; omega
    refine Ev.bindc (limb_Add_c hlo' hc (by unfold U; omega)) (Ev.ifp (by omega) ?_)
    dsimp only
    unfold U at hw hx hc
    have hb := row_step (B := 18446744073709551616) (x := rd a (i : Int)) (y := x) (s := 0) (c := c) (hi := P / 18446744073709551616) (lo := P % 18446744073709551616) (v := (P % 18446744073709551616 + c) % 18446744073709551616) (ov := (P % 18446744073709551616 + c) / 18446744073709551616) (by omega) hw.1 hw.2 hx.1 hx.2 (by omega) (by omega) hc.1 hc.2 (by omega) (by omega) (by omega) (by omega)
    have hP0 : 0 ≤ P := by rw [← hP]; exact Int.mul_nonneg hw.1 hx.1
    rw [Int.add_zero, e, wu_id (by omega) (by omega)]
    refine ih (i + 1) _ _ (by omega) (by simp; omega) (Wl_snoc hwo (by unfold U; omega)) (by unfold U; omega) ?_
    have he := HE.out
    have hs : P + c = 18446744073709551616 * (P / 18446744073709551616 + (P % 18446744073709551616 + c) / 18446744073709551616) + (P % 18446744073709551616 + c) % 18446744073709551616 := by omega
    rw [nv_snoc, hlo, nv_take_succ (by omega), Wp_succ]
    generalize P / 18446744073709551616 + (P % 18446744073709551616 + c) / 18446744073709551616 = q at *
    generalize (P % 18446744073709551616 + c) % 18446744073709551616 = r at *
    have hc' : c = 18446744073709551616 * q + r - P := by omega
    rw [hc', ← hP] at he
    grind
theorem prod_Word_c {a : List Int} (ha : Wl a) (hla : a.length ≤ 999999999) {x y : Int} (hx : U x) (hy : U y) : Ev (fun k => prod_Word.f k a x y) (dg (nv a * x + y)) := by
  refine Ev.ifp (by rw [w64_id (by omega) (by omega)]; omega) (Ev.ifp (by rw [w64_id (by omega) (by omega)]; omega) ?_)
  exact prod_Word_l ha hla hx hy a.length 0 [] y (by omega) rfl Ws_nil hy (by simp [Wp_zero, nv])

/-! ### Rows -/
theorem prod_rows_l1 {a b : List Int} (ha : Wl a) (hb : Wl b) (hab : a.length + b.length ≤ 1000000000) {i : Nat} (hi : i < a.length) {N : Int}
    (next : ∀ z : List Int, z.length = a.length + b.length → Ws z → nv z = nv (a.take (i + 1)) * nv b → (∀ p : Nat, i + 1 + b.length ≤ p → rd z (p : Int) = 0) → Ev (fun k => prod_rows.l0 k b z a (a.length : Int) ((i + 1 : Nat) : Int)) (dg N))
    (d : Nat) : ∀ (j : Nat) (z : List Int) (c : Int), j + d = b.length → z.length = a.length + b.length → Ws z → U c → nv z + Wp (i + j) * c = nv (a.take i) * nv b + Wp i * (rd a (i : Int) * nv (b.take j)) → (∀ p : Nat, i + b.length ≤ p → rd z (p : Int) = 0) →
    Ev (fun k => prod_rows.l1 k b z (i : Int) (rd a (i : Int)) c a (a.length : Int) (i : Int) b (b.length : Int) j) (dg N) := by
  have hx := U_rd ha.1 (i : Int)
  induction d with
  | zero =>
    intro j z c hj hz hwz hc he h0
    have HE := Hd.mk he
    clear he
    have e : wrap64 ((i : Int) + (b.length : Int)) = ((i + b.length : Nat) : Int) := by rw [w64_id (by omega) (by omega)]; omega
    have e2 : wrap64 ((i : Int) + 1) = ((i + 1 : Nat) : Int) := by rw [w64_id (by omega) (by omega)]; omega
    refine Ev.step (fun k => prod_rows.l1.eq_2 ..) ?_
    rw [e, e2]
    refine Ev.ifn (by omega) (Ev.ifp (by omega) (Ev.ifp (by omega) ?_))
    rw [Int.toNat_natCast]
    refine next _ (by simp; omega) (Ws_set hwz _ hc) ?_ ?_
    · rw [nv_set _ _ _ (by omega), h0 _ (Nat.le_refl _), nv_take_succ hi]
      have ej : j = b.length := by omega
      have he := HE.out
      rw [ej, List.take_of_length_le (Nat.le_refl _)] at he
      rw [Int.sub_zero, he, Int.add_mul, Int.mul_assoc]
    · intro p hp
      rw [rd_set_ne (by omega), h0 p (by omega)]
  | succ d ih =>
    intro j z c hj hz hwz hc he h0
    have HE := Hd.mk he
    clear he
    have hy := U_rd hb.1 (j : Int)
    have hs := U_rd hwz ((i + j : Nat) : Int)
    have e : wrap64 ((i : Int) + (j : Int)) = ((i + j : Nat) : Int) := by rw [w64_id (by omega) (by omega)]; omega
    have e2 : wrap64 ((j : Int) + 1) = ((j + 1 : Nat) : Int) := by rw [w64_id (by omega) (by omega)]; omega
    refine Ev.step (fun k => prod_rows.l1.eq_2 ..) ?_
    rw [e, e2]
    refine Ev.ifp (by omega) (Ev.ifp (by omega) (Ev.ifp (by omega) (Ev.bindc (limb_Mul_c hx hy) (Ev.ifp (by omega) (Ev.ifp (by omega) ?_)))))
    generalize hP : rd a (i : Int) * rd b (j : Int) = P
    have hlo' : U (P % 18446744073709551616) := by unfold U; omega
    refine Ev.bindc (limb_Add_c hs hlo' hc) ?_
    dsimp only
    rw [Int.toNat_natCast]
    generalize hS : rd z ((i + j : Nat) : Int) = S at *
    unfold U at hx hc hs hy
    have hP0 : 0 ≤ P := by rw [← hP]; exact Int.mul_nonneg hx.1 hy.1
    have hbd := row_step (B := 18446744073709551616) (x := rd a (i : Int)) (y := rd b (j : Int)) (s := S) (c := c) (hi := P / 18446744073709551616) (lo := P % 18446744073709551616) (v := (S + P % 18446744073709551616 + c) % 18446744073709551616) (ov := (S + P % 18446744073709551616 + c) / 18446744073709551616) (by omega) hx.1 hx.2 hy.1 hy.2 hs.1 hs.2 hc.1 hc.2 (by omega) (by omega) (by omega) (by omega)
    rw [wu_id (by omega) (by omega)]
    refine ih (j + 1) _ _ (by omega) (by simp; omega) (Ws_set hwz _ (by unfold U; omega)) (by unfold U; omega) ?_ ?_
    · have he := HE.out
      have hq : S + P + c = 18446744073709551616 * (P / 18446744073709551616 + (S + P % 18446744073709551616 + c) / 18446744073709551616) + (S + P % 18446744073709551616 + c) % 18446744073709551616 := by omega
      rw [nv_set _ _ _ (by omega), hS, nv_take_succ (by omega), ← Nat.add_assoc, Wp_succ]
      generalize P / 18446744073709551616 + (S + P % 18446744073709551616 + c) / 18446744073709551616 = q at *
      generalize (S + P % 18446744073709551616 + c) % 18446744073709551616 = r at *
      have hc' : c = 18446744073709551616 * q + r - P - S := by omega
      rw [hc', ← hP] at he
      have hWa := Wp_add i j
      grind
    · intro p hp
      rw [rd_set_ne (by omega), h0 p hp]
theorem prod_rows_l0 {a b : List Int} (ha : Wl a) (hb : Wl b) (hab : a.length + b.length ≤ 1000000000) (d : Nat) : ∀ (i : Nat) (z : List Int), i + d = a.length → z.length = a.length + b.length → Ws z → nv z = nv (a.take i) * nv b → (∀ p : Nat, i + b.length ≤ p → rd z (p : Int) = 0) →
    Ev (fun k => prod_rows.l0 k b z a (a.length : Int) i) (dg (nv a * nv b)) := by
  induction d with
  | zero =>
    intro i z hi hz hwz he h0
    refine Ev.step (fun k => prod_rows.l0.eq_2 ..) ?_
    refine Ev.ifn (by omega) ?_
    rw [List.take_of_length_le (by omega)] at he
    rw [← he]
    exact Ev.bind (nat_Trim_c ⟨hwz, by omega⟩) (Ev.same rfl)
  | succ d ih =>
    intro i z hi hz hwz he h0
    refine Ev.step (fun k => prod_rows.l0.eq_2 ..) ?_
    refine Ev.ifp (by omega) (Ev.ifp (by omega) (Ev.ifp (by omega) ?_))
    exact prod_rows_l1 ha hb hab (by omega) (fun z h1 h2 h3 h4 => ih (i + 1) z (by omega) h1 h2 h3 h4) b.length 0 z 0 (by omega) hz hwz (by unfold U; omega) (by simp [nv]; omega) h0
theorem prod_rows_c {a b : List Int} (ha : Wl a) (hb : Wl b) (hab : a.length + b.length ≤ 1000000000) : Ev (fun k => prod_rows.f k a b) (dg (nv a * nv b)) := by
  have e : wrap64 ((a.length : Int) + (b.length : Int)) = ((a.length + b.length : Nat) : Int) := by rw [w64_id (by omega) (by omega)]; omega
  unfold prod_rows.f
  rw [e, Int.toNat_natCast]
  refine Ev.ifp (by omega) (Ev.ifp (by omega) ?_)
  exact prod_rows_l0 ha hb hab a.length 0 _ (by omega) (by simp) (Ws_zeros _) (by rw [nv_zeros, List.take_zero]; simp [nv]) (fun p _ => rd_zeros _ p)

/-! ### Halves -/
theorem prod_part_low {a : List Int} (ha : Wl a) (m : Nat) : Ev (fun k => prod_part.f k a 0 (m : Int)) (dg (nv (a.take m))) := by
  have hal := ha.2
  have e0 : mn (0 : Int) (a.length : Int) = 0 := by unfold mn; split <;> omega
  have e1 : mn (m : Int) (a.length : Int) = ((min m a.length : Nat) : Int) := by unfold mn; split <;> omega
  unfold prod_part.f
  rw [e0, e1]
  refine Ev.ifp (by omega) (Ev.ifp (by omega) (Ev.ifp (by omega) ?_))
  have e2 : (a.take ((min m a.length : Nat) : Int).toNat).drop (0 : Int).toNat = a.take m := by
    rw [Int.toNat_natCast]; show List.drop 0 _ = _; rw [List.drop_zero, List.take_eq_take_iff]; omega
  rw [e2]
  exact Ev.bind (nat_Trim_c ⟨Ws_take ha.1 m, by rw [List.length_take]; omega⟩) (Ev.same rfl)
theorem prod_part_high {a : List Int} (ha : Wl a) (m : Nat) : Ev (fun k => prod_part.f k a (m : Int) (a.length : Int)) (dg (nv (a.drop m))) := by
  have hal := ha.2
  have e0 : mn (a.length : Int) (a.length : Int) = a.length := by unfold mn; split <;> omega
  have e1 : mn (m : Int) (a.length : Int) = ((min m a.length : Nat) : Int) := by unfold mn; split <;> omega
  unfold prod_part.f
  rw [e0, e1]
  refine Ev.ifp (by omega) (Ev.ifp (by omega) (Ev.ifp (by omega) ?_))
  have e2 : (a.take (a.length : Int).toNat).drop ((min m a.length : Nat) : Int).toNat = a.drop m := by
    rw [Int.toNat_natCast, Int.toNat_natCast, List.take_length]
    rcases Nat.le_total m a.length with h | h
    · rw [Nat.min_eq_left h]
    · rw [Nat.min_eq_right h, List.drop_eq_nil_of_le (Nat.le_refl _), List.drop_eq_nil_of_le h]
  rw [e2]
  exact Ev.bind (nat_Trim_c ⟨Ws_drop ha.1 m, by rw [List.length_drop]; omega⟩) (Ev.same rfl)
theorem prod_above_c {a : List Int} (ha : Wl a) {m : Nat} (hm : a.length + m ≤ 1000000000) : Ev (fun k => prod_above.f k a (m : Int)) (dg (nv a * Wp m)) := by
  unfold prod_above.f
  rw [Int.toNat_natCast]
  refine Ev.ifp (by omega) (Ev.ifp (by omega) (Ev.bindc rfl (Ev.ifp (by simp; omega) ?_)))
  have hv : nv a * Wp m = nv (List.replicate m 0 ++ a) := by rw [nv_app, nv_zeros, List.length_replicate, Int.zero_add, Int.mul_comm]
  rw [hv]
  exact Ev.bind (nat_Trim_c ⟨Ws_app.2 ⟨Ws_zeros _, ha.1⟩, by simp; omega⟩) (Ev.same rfl)
theorem dg_len_nv {l : List Int} (h : Ws l) : (dg (nv l)).length ≤ l.length := dg_len_le (nv_lt h)
/-- The middle of the halves: four numbers of at most m words, and a product that is right for numbers of m + 1 words. -/
theorem halves_go {m : Nat} (hm : m ≤ 100000000) {a0 a1 b0 b1 : Int} (na0 : 0 ≤ a0) (na1 : 0 ≤ a1) (nb0 : 0 ≤ b0) (nb1 : 0 ≤ b1) (ba0 : bl a0 ≤ 64 * m) (ba1 : bl a1 ≤ 64 * m) (bb0 : bl b0 ≤ 64 * m) (bb1 : bl b1 ≤ 64 * m)
    {M : Nat → List Int → List Int → Option (List Int)} (ih : ∀ x y : Int, 0 ≤ x → 0 ≤ y → bl x ≤ 64 * (m + 1) → bl y ≤ 64 * (m + 1) → Ev (fun k => M k (dg x) (dg y)) (dg (x * y))) :
    Ev (fun k => (M k (dg a0) (dg b0)).bind fun t543 => ((M k (dg a1) (dg b1)).bind fun t546 => ((nat_Add.f k (dg a0) (dg a1)).bind fun t549 => ((nat_Add.f k (dg b0) (dg b1)).bind fun t552 => ((M k t549 t552).bind fun t555 => ((nat_Add.f k t543 t546).bind fun t558 => ((nat_Sub.f k t555 t558).bind fun bt561 => ((prod_above.f k bt561.1 (m : Int)).bind fun t565 => ((prod_above.f k t546 ((2 * m : Nat) : Int)).bind fun t568 => ((nat_Add.f k t565 t568).bind fun t571 => ((nat_Add.f k t543 t571).bind fun t574 => (some t574))))))))))))
      (dg ((a0 + Wp m * a1) * (b0 + Wp m * b1))) := by
  have q : ∀ x : Int, 0 ≤ x → bl x ≤ 30000000000 → Wl (dg x) ∧ nv (dg x) = x ∧ (dg x).length ≤ 900000000 ∧ ((dg x).length : Int) ≤ (bl x + 63) / 64 := fun x h h2 => ⟨Wl_dg (by omega), nv_dg h, by have := dg_len_bl x; omega, dg_len_bl x⟩
  have add : ∀ x y : Int, 0 ≤ x → 0 ≤ y → bl x ≤ 30000000000 → bl y ≤ 30000000000 → Ev (fun k => nat_Add.f k (dg x) (dg y)) (dg (x + y)) := fun x y h1 h2 h3 h4 => by
    obtain ⟨q1, q2, q3, _⟩ := q x h1 h3
    obtain ⟨r1, r2, r3, _⟩ := q y h2 h4
    have := nat_Add_c q1 r1 (by omega) (by omega)
    rwa [q2, r2] at this
  have above : ∀ (x : Int) (n : Nat), 0 ≤ x → bl x ≤ 30000000000 → n ≤ 200000000 → Ev (fun k => prod_above.f k (dg x) (n : Int)) (dg (x * Wp n)) := fun x n h1 h2 h3 => by
    obtain ⟨q1, q2, _, q4⟩ := q x h1 h2
    have := prod_above_c q1 (m := n) (by omega)
    rwa [q2] at this
  have bs := bl_add na0 na1 (m := 64 * m) ba0 ba1
  have bt := bl_add nb0 nb1 (m := 64 * m) bb0 bb1
  have n0 : 0 ≤ a0 * b0 := Int.mul_nonneg na0 nb0
  have n1 : 0 ≤ a1 * b1 := Int.mul_nonneg na1 nb1
  have nx1 : 0 ≤ a0 * b1 := Int.mul_nonneg na0 nb1
  have nx2 : 0 ≤ a1 * b0 := Int.mul_nonneg na1 nb0
  have b00 := bl_mul na0 nb0
  have b11 := bl_mul na1 nb1
  have bst := bl_mul (x := a0 + a1) (y := b0 + b1) (by omega) (by omega)
  have eq : (a0 + a1) * (b0 + b1) = a0 * b0 + a1 * b1 + (a0 * b1 + a1 * b0) := by grind
  have e2m : Wp (2 * m) = Wp m * Wp m := by rw [← Wp_add]; congr 1; omega
  have goal : (a0 + Wp m * a1) * (b0 + Wp m * b1) = a0 * b0 + ((a0 * b1 + a1 * b0) * Wp m + a1 * b1 * Wp (2 * m)) := by rw [e2m]; grind
  have hW := Wp_pos m
  have hW2 := Wp_pos (2 * m)
  have bW : bl (Wp m) ≤ 64 * m + 1 := by
    have := bl_le_of (x := Wp m) (n := 64 * m + 1) (by rw [Wp_two, Int.pow_succ]; have := pow_pos (64 * m); omega)
    omega
  have bW2 : bl (Wp (2 * m)) ≤ 128 * m + 1 := by
    have := bl_le_of (x := Wp (2 * m)) (n := 64 * (2 * m) + 1) (by rw [Wp_two, Int.pow_succ]; have := pow_pos (64 * (2 * m)); omega)
    omega
  rw [goal]
  clear goal e2m
  have M0 := ih a0 b0 na0 nb0 (by omega) (by omega)
  have M1 := ih a1 b1 na1 nb1 (by omega) (by omega)
  have M2 := ih (a0 + a1) (b0 + b1) (by omega) (by omega) (by omega) (by omega)
  rw [eq] at M2 bst
  clear eq ih
  have A1 := add a0 a1 na0 na1 (by omega) (by omega)
  have A2 := add b0 b1 nb0 nb1 (by omega) (by omega)
  generalize a0 * b0 = x0 at *
  generalize a1 * b1 = x1 at *
  generalize hmid : a0 * b1 + a1 * b0 = x2 at *
  have n2 : 0 ≤ x2 := by omega
  have bs2 := bl_add n0 n1 (m := 128 * m) (by omega) (by omega)
  have A3 := add x0 x1 n0 n1 (by omega) (by omega)
  have S1 : Ev (fun k => nat_Sub.f k (dg (x0 + x1 + x2)) (dg (x0 + x1))) (dg x2, true) := by
    obtain ⟨q1, q2, _, _⟩ := q (x0 + x1 + x2) (by omega) (by omega)
    obtain ⟨r1, r2, _, _⟩ := q (x0 + x1) (by omega) (by omega)
    have := nat_Sub_c q1 r1 (by omega)
    rwa [q2, r2, show x0 + x1 + x2 - (x0 + x1) = x2 by omega] at this
  have bmid := bl_mono (x := x2) (y := x0 + x1 + x2) (by omega)
  have U1 := above x2 m n2 (by omega) (by omega)
  have U2 := above x1 (2 * m) n1 (by omega) (by omega)
  have bu1 := bl_mul n2 (Int.le_of_lt hW)
  have bu2 := bl_mul n1 (Int.le_of_lt hW2)
  have nu1 : 0 ≤ x2 * Wp m := Int.mul_nonneg n2 (Int.le_of_lt hW)
  have nu2 : 0 ≤ x1 * Wp (2 * m) := Int.mul_nonneg n1 (Int.le_of_lt hW2)
  have A4 := add _ _ nu1 nu2 (by omega) (by omega)
  have bsum := bl_add nu1 nu2 (m := 256 * m + 100) (by omega) (by omega)
  have A5 := add x0 _ n0 (Int.add_nonneg nu1 nu2) (by omega) (by omega)
  exact Ev.bind M0 (Ev.bind M1 (Ev.bind A1 (Ev.bind A2 (Ev.bind M2 (Ev.bind A3 (Ev.bind S1 (Ev.bind U1 (Ev.bind U2 (Ev.bind A4 (Ev.bind A5 (Ev.same rfl)))))))))))
theorem nv_split' (a : List Int) (m : Nat) : nv a = nv (a.take m) + Wp m * nv (a.drop m) := by
  have sa := nv_split a m
  rcases Nat.le_total m a.length with h | h
  · rw [Nat.min_eq_left h] at sa; exact sa
  · rw [List.take_of_length_le h, List.drop_eq_nil_of_le h]; simp [nv]
theorem prod_Mul_n (n : Nat) : ∀ a b : List Int, Wl a → Wl b → a.length ≤ n → b.length ≤ n → n ≤ 100000000 → Ev (fun k => prod_Mul.f k a b) (dg (nv a * nv b)) := by
  induction n using Nat.strongRecOn with
  | ind n ih =>
    intro a b ha hb hla hlb hn
    refine Ev.step (fun k => prod_Mul.f.eq_2 ..) ?_
    by_cases h1 : (a.length : Int) < 8
    · exact Ev.ifp h1 (Ev.bind (prod_rows_c ha hb (by omega)) (Ev.same rfl))
    refine Ev.ifn h1 ?_
    by_cases h2 : (b.length : Int) < 8
    · exact Ev.ifp h2 (Ev.bind (prod_rows_c ha hb (by omega)) (Ev.same rfl))
    refine Ev.ifn h2 (Ev.bind ?_ (Ev.same rfl))
    obtain ⟨m, hm⟩ : ∃ m, m = (max a.length b.length + 1) / 2 := ⟨_, rfl⟩
    have hmn : m + 1 < n := by omega
    have hma : a.length ≤ 2 * m := by omega
    have hmb : b.length ≤ 2 * m := by omega
    have em : wrap64 (Int.tdiv (wrap64 ((mx (a.length : Int) (b.length : Int)) + 1)) 2) = (m : Int) := by
      have : mx (a.length : Int) (b.length : Int) = ((max a.length b.length : Nat) : Int) := by unfold mx; split <;> omega
      rw [this, w64_id (n := ((max a.length b.length : Nat) : Int) + 1) (by omega) (by omega), Int.tdiv_eq_ediv_of_nonneg (by omega), w64_id (by omega) (by omega)]
      omega
    clear hm
    have em2 : wrap64 (2 * (m : Int)) = ((2 * m : Nat) : Int) := by rw [w64_id (by omega) (by omega)]; omega
    unfold prod_halves.f
    rw [em, em2]
    clear em em2
    have bd : ∀ l : List Int, Ws l → l.length ≤ m → bl (nv l) ≤ 64 * m := fun l h h2 => by have := bl_nv h; omega
    have go := halves_go (m := m) (by omega) (nv_nonneg (Ws_take ha.1 m)) (nv_nonneg (Ws_drop ha.1 m)) (nv_nonneg (Ws_take hb.1 m)) (nv_nonneg (Ws_drop hb.1 m))
      (bd _ (Ws_take ha.1 m) (by rw [List.length_take]; omega)) (bd _ (Ws_drop ha.1 m) (by rw [List.length_drop]; omega)) (bd _ (Ws_take hb.1 m) (by rw [List.length_take]; omega)) (bd _ (Ws_drop hb.1 m) (by rw [List.length_drop]; omega))
      (M := fun k => prod_Mul.f k) (fun x y hx hy bx bY => by
        have kx := dg_len_bl x
        have ky := dg_len_bl y
        have := ih (m + 1) hmn (dg x) (dg y) (Wl_dg (by omega)) (Wl_dg (by omega)) (by omega) (by omega) (by omega)
        rwa [nv_dg hx, nv_dg hy] at this)
    rw [← nv_split', ← nv_split'] at go
    exact Ev.bind (prod_part_low ha m) (Ev.bind (prod_part_high ha m) (Ev.bind (prod_part_low hb m) (Ev.bind (prod_part_high hb m) go)))
theorem prod_Mul_c {a b : List Int} (ha : Wl a) (hb : Wl b) (hla : a.length ≤ 100000000) (hlb : b.length ≤ 100000000) : Ev (fun k => prod_Mul.f k a b) (dg (nv a * nv b)) := prod_Mul_n 100000000 a b ha hb hla hlb (by omega)
/-! ### Powers -/
theorem and_bit : ∀ n : Fin 65, ∀ j : Fin 7, Go.bits .and .i64 (n.val : Int) (2 ^ j.val) = (n.val : Int) / 2 ^ j.val % 2 * 2 ^ j.val := by decide +kernel
theorem prod_Mul_dg {x y : Int} (hx : 0 ≤ x) (hy : 0 ≤ y) (bx : bl x ≤ 6000000000) (bY : bl y ≤ 6000000000) : Ev (fun k => prod_Mul.f k (dg x) (dg y)) (dg (x * y)) := by
  have kx := dg_len_bl x
  have ky := dg_len_bl y
  have := prod_Mul_c (Wl_dg (n := x) (by omega)) (Wl_dg (n := y) (by omega)) (by omega) (by omega)
  rwa [nv_dg hx, nv_dg hy] at this
def pown (n : Int) : Nat := (mn (mx n 0) 64).toNat
theorem pown_le (n : Int) : pown n ≤ 64 := by unfold pown mn; split <;> omega
theorem pown_eq (n : Int) : mn (mx n 0) 64 = (pown n : Int) := by unfold pown mn mx; split <;> split <;> omega
theorem pown_of {n : Int} (h0 : 0 ≤ n) (h1 : n ≤ 64) : pown n = n.toNat := by unfold pown mn mx; split <;> split <;> omega
theorem bl_pow_le {x : Int} (hx : 0 ≤ x) {m : Int} (h : bl x ≤ m) (n : Nat) (hn : n ≤ 64) : bl (x ^ n) ≤ 64 * m + 1 := by
  have h1 := bl_pow hx n
  have h2 := bl_nonneg x
  have h3 : (n : Int) * bl x ≤ 64 * m := Int.mul_le_mul (by omega) h h2 (by omega)
  omega
theorem prod_Pow_l {a : List Int} (ha : Wl a) (hla : a.length ≤ 100000) {n : Nat} (hn : n ≤ 64) (j : Nat) : j ≤ 7 → ∀ x6 : Int, x6 = 2 ^ j / 2 →
    Ev (fun k => prod_Pow.l0 k a (n : Int) (dg (nv a ^ (n / 2 ^ j))) x6) (dg (nv a ^ n)) := by
  have na := nv_nonneg ha.1
  have ba := bl_nv ha.1
  induction j with
  | zero =>
    intro _ x6 hx
    have : x6 = 0 := by rw [hx]; rfl
    subst this
    refine Ev.step (fun k => prod_Pow.l0.eq_2 ..) ?_
    exact Ev.ifn (by omega) (Ev.same (by simp))
  | succ j ih =>
    intro hj x6 hx
    have hp := pow_pos j
    have e6 : x6 = 2 ^ j := by rw [hx, Int.pow_succ]; omega
    subst e6
    have h2 := ih (by omega) _ rfl
    have hq : n / 2 ^ (j + 1) ≤ 64 := Nat.le_trans (Nat.div_le_self _ _) hn
    have b1 := bl_pow_le na ba _ hq
    have p1 := pow_nn na (n / 2 ^ (j + 1))
    have s1 := prod_Mul_dg p1 p1 (by omega) (by omega)
    rw [← Int.pow_add] at s1
    have hab := and_bit ⟨n, by omega⟩ ⟨j, by omega⟩
    have hnd : n / 2 ^ j = n / 2 ^ (j + 1) + n / 2 ^ (j + 1) + n / 2 ^ j % 2 := by
      have : n / 2 ^ (j + 1) = n / 2 ^ j / 2 := by rw [Nat.pow_succ, Nat.div_div_eq_div_mul]
      omega
    have hcast : (n : Int) / 2 ^ j = ((n / 2 ^ j : Nat) : Int) := by rw [Int.natCast_ediv, Int.natCast_pow]; rfl
    refine Ev.step (fun k => prod_Pow.l0.eq_2 ..) ?_
    refine Ev.ifp hp (Ev.bind s1 ?_)
    rcases Nat.mod_two_eq_zero_or_one (n / 2 ^ j) with h | h
    · refine Ev.ifp ?_ ?_
      · refine hab.trans ?_
        show (n : Int) / 2 ^ j % 2 * 2 ^ j = 0
        rw [hcast, show ((n / 2 ^ j : Nat) : Int) % 2 = 0 by omega, Int.zero_mul]
      · rw [h, Nat.add_zero] at hnd
        rw [← hnd]
        exact h2
    · refine Ev.ifn ?_ ?_
      · intro hc
        have : (n : Int) / 2 ^ j % 2 * 2 ^ j = 0 := hab.symm.trans hc
        rw [hcast, show ((n / 2 ^ j : Nat) : Int) % 2 = 1 by omega, Int.one_mul] at this
        omega
      · rw [h] at hnd
        have hq2 : n / 2 ^ (j + 1) + n / 2 ^ (j + 1) ≤ 64 := by
          have := Nat.div_le_self n (2 ^ j)
          omega
        have b2 := bl_pow_le na ba _ hq2
        have p2 := pow_nn na (n / 2 ^ (j + 1) + n / 2 ^ (j + 1))
        have k2 := dg_len_bl (nv a ^ (n / 2 ^ (j + 1) + n / 2 ^ (j + 1)))
        have s2 := prod_Mul_c (Wl_dg (n := nv a ^ (n / 2 ^ (j + 1) + n / 2 ^ (j + 1))) (by omega)) ha (by omega) (by omega)
        rw [nv_dg p2, ← Int.pow_succ, Nat.succ_eq_add_one, ← hnd] at s2
        exact Ev.bind s2 h2
theorem prod_Pow_c {a : List Int} (ha : Wl a) (hla : a.length ≤ 100000) (n : Int) : Ev (fun k => prod_Pow.f k a n) (dg (nv a ^ pown n)) := by
  unfold prod_Pow.f
  rw [pown_eq]
  refine Ev.bind (nat_Of_c (x := 1) (by unfold U; omega)) ?_
  have h := prod_Pow_l ha hla (pown_le n) 7 (by omega) 64 (by decide)
  have hn := pown_le n
  rw [show pown n / 2 ^ 7 = 0 by omega, Int.pow_zero] at h
  exact h
end Go.Proofs.Ytldcgclbgbhffaa.M
