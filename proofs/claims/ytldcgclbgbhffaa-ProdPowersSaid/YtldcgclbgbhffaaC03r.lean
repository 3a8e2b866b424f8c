/- What the reference's products and powers answer. -/
import Derived.Test.YtldcgclbgbhffaaC03
import Derived.Test.YtldcgclbgbhffaaBgradineref03
namespace Go.Proofs.Ytldcgclbgbhffaa.M
open Go.RowKit Go.Proofs.Ytldcgclbgbhffaa.P Go.Proofs.YtldcgclbgbhffaaW.PrintWords Go.Proofs.YtldcgclbgbhffaaW.PrintLast Go.Proofs.YtldcgclbgbhffaaW.PrintMore
set_option linter.unusedVariables false

theorem ref03_Mul_l1 {a b : List Int} (ha : Hs a) (hb : Hs b) (hab : a.length + b.length ≤ 900000000) {i : Nat} (hi : i < a.length) {N : Int}
    (next : ∀ z : List Int, z.length = a.length + b.length + 1 → Hs z → hv z = hv (a.take (i + 1)) * hv b → (∀ p : Nat, i + 1 + b.length ≤ p → rd z (p : Int) = 0) → Ev (fun k => gradineref03_Mul.l0 k a b z (a.length : Int) ((i + 1 : Nat) : Int)) (dg N))
    (d : Nat) : ∀ (j : Nat) (z : List Int) (c : Int), j + d = b.length → z.length = a.length + b.length + 1 → Hs z → 0 ≤ c → c < 4294967296 → hv z + Hp (i + j) * c = hv (a.take i) * hv b + Hp i * (rd a (i : Int) * hv (b.take j)) → (∀ p : Nat, i + b.length ≤ p → rd z (p : Int) = 0) →
    Ev (fun k => gradineref03_Mul.l1 k a b z (i : Int) c (a.length : Int) (i : Int) (b.length : Int) j) (dg N) := by
  have hx := Hs_rd ha (i : Int)
  induction d with
  | zero =>
    intro j z c hj hz hwz hc hc1 he h0
    have HE := Hd.mk he
    clear he
    have e : wrap64 ((i : Int) + (b.length : Int)) = ((i + b.length : Nat) : Int) := by rw [w64_id (by omega) (by omega)]; omega
    have e2 : wrap64 ((i : Int) + 1) = ((i + 1 : Nat) : Int) := by rw [w64_id (by omega) (by omega)]; omega
    refine Ev.step (fun k => gradineref03_Mul.l1.eq_2 ..) ?_
    rw [e, e2]
    refine Ev.ifn (by omega) (Ev.ifp (by omega) (Ev.ifp (by omega) ?_))
    rw [Int.toNat_natCast]
    refine next _ (by simp; omega) (Hs_set hwz _ hc hc1) ?_ ?_
    · rw [hv_set _ _ _ (by omega), h0 _ (Nat.le_refl _), hv_take_next]
      have ej : j = b.length := by omega
      have he := HE.out
      rw [ej, List.take_of_length_le (Nat.le_refl _)] at he
      rw [Int.sub_zero, he, Int.add_mul, Int.mul_assoc]
    · intro p hp
      rw [rd_set_ne (by omega), h0 p (by omega)]
  | succ d ih =>
    intro j z c hj hz hwz hc hc1 he h0
    have HE := Hd.mk he
    clear he
    have hy := Hs_rd hb (j : Int)
    have e : wrap64 ((i : Int) + (j : Int)) = ((i + j : Nat) : Int) := by rw [w64_id (by omega) (by omega)]; rfl
    have e2 : wrap64 ((j : Int) + 1) = ((j + 1 : Nat) : Int) := by rw [w64_id (by omega) (by omega)]; omega
    refine Ev.step (fun k => gradineref03_Mul.l1.eq_2 ..) ?_
    rw [e, e2]
    have hPb := mul_bound (m := 4294967295) (n := 4294967295) hx.1 (Int.le_of_lt_add_one hx.2) hy.1 (Int.le_of_lt_add_one hy.2)
    have hP0 := hPb.1
    have hP1 : rd a (i : Int) * rd b (j : Int) ≤ 18446744065119617025 := Int.le_trans hPb.2 (by decide)
    clear hPb
    have hs := Hs_rd hwz ((i + j : Nat) : Int)
    rw [Int.toNat_natCast]
    generalize hP : rd a (i : Int) * rd b (j : Int) = P at *
    generalize hS : rd z ((i + j : Nat) : Int) = S at *
    have HP := Hd.mk hP
    have HS := Hd.mk hS
    clear hP hS hx hy
    rw [wu_id (n := P) (by omega) (by omega), wu_id (n := c + P) (by omega) (by omega), wu_id (by omega) (by omega), and32 _ (by omega) (by omega)]
    have hq : c + P + S = 4294967296 * ((c + P + S) / 4294967296) + (c + P + S) % 4294967296 := by omega
    have hq0 : 0 ≤ (c + P + S) / 4294967296 ∧ (c + P + S) / 4294967296 < 4294967296 := by omega
    have hr0 : 0 ≤ (c + P + S) % 4294967296 ∧ (c + P + S) % 4294967296 < 4294967296 := by omega
    generalize (c + P + S) / 4294967296 = q at *
    generalize (c + P + S) % 4294967296 = r at *
    refine Ev.ifp (by omega) (Ev.ifp (by omega) (Ev.ifp (by omega) (Ev.ifp (by omega) (Ev.ifp (by omega) (Ev.ifp (by omega) (Ev.ifp (by omega) ?_))))))
    refine ih (j + 1) _ _ (by omega) (by simp; omega) (Hs_set hwz _ hr0.1 hr0.2) hq0.1 hq0.2 ?_ ?_
    · have he := HE.out
      rw [hv_set _ _ _ (by omega), HS.out, hv_take_next, ← Nat.add_assoc, Hp_succ]
      have hc' : c = 4294967296 * q + r - P - S := by omega
      rw [hc', ← HP.out] at he
      have hWa := Hp_add i j
      grind
    · intro p hp
      rw [rd_set_ne (by omega), h0 p hp]
theorem ref03_Mul_l0 {a b : List Int} (ha : Hs a) (hb : Hs b) (hab : a.length + b.length ≤ 900000000) (d : Nat) : ∀ (i : Nat) (z : List Int), i + d = a.length → z.length = a.length + b.length + 1 → Hs z → hv z = hv (a.take i) * hv b → (∀ p : Nat, i + b.length ≤ p → rd z (p : Int) = 0) →
    Ev (fun k => gradineref03_Mul.l0 k a b z (a.length : Int) i) (dg (hv a * hv b)) := by
  induction d with
  | zero =>
    intro i z hi hz hwz he h0
    refine Ev.step (fun k => gradineref03_Mul.l0.eq_2 ..) ?_
    refine Ev.ifn (by omega) ?_
    rw [List.take_of_length_le (by omega)] at he
    rw [← he]
    exact Ev.bind (ref02_Whole_c hwz (by omega)) (Ev.same rfl)
  | succ d ih =>
    intro i z hi hz hwz he h0
    refine Ev.step (fun k => gradineref03_Mul.l0.eq_2 ..) ?_
    refine Ev.ifp (by omega) ?_
    exact ref03_Mul_l1 ha hb hab (by omega) (fun z h1 h2 h3 h4 => ih (i + 1) z (by omega) h1 h2 h3 h4) b.length 0 z 0 (by omega) hz hwz (by omega) (by omega) (by simp [hv]; omega) h0
theorem ref03_Mul_c {a b : List Int} (ha : Wl a) (hb : Wl b) (hla : a.length ≤ 100000000) (hlb : b.length ≤ 100000000) : Ev (fun k => gradineref03_Mul.f k a b) (dg (nv a * nv b)) := by
  obtain ⟨a1, a2, a3⟩ := hh_spec ha.1
  obtain ⟨b1, b2, b3⟩ := hh_spec hb.1
  refine Ev.bind (ref02_Halves_c ha (by omega)) (Ev.bind (ref02_Halves_c hb (by omega)) ?_)
  have e : wrap64 (wrap64 (((hh a).length : Int) + ((hh b).length : Int)) + 1) = (((hh a).length + (hh b).length + 1 : Nat) : Int) := by
    rw [w64_id (n := ((hh a).length : Int) + ((hh b).length : Int)) (by omega) (by omega), w64_id (by omega) (by omega)]; omega
  rw [e, Int.toNat_natCast, ← a2, ← b2]
  refine Ev.ifp (by omega) (Ev.ifp (by omega) ?_)
  exact ref03_Mul_l0 a1 b1 (by omega) (hh a).length 0 _ (by omega) (by simp) (Hs_zeros _) (by rw [hv_zeros, List.take_zero]; simp [hv]) (fun p _ => rd_zeros _ p)
theorem ref03_Word_c {a : List Int} (ha : Wl a) (hla : a.length ≤ 90000000) {x y : Int} (hx : U x) (hy : U y) : Ev (fun k => gradineref03_Word.f k a x y) (dg (nv a * x + y)) := by
  have na := nv_nonneg ha.1
  have h1 := ref03_Mul_c ha (b := [x]) ⟨Ws_one hx, by simp⟩ (by omega) (by simp)
  rw [nv_one] at h1
  have n1 : 0 ≤ nv a * x := Int.mul_nonneg na hx.1
  have b1 := bl_mul na hx.1
  have b2 := bl_nv ha.1
  have b3 := bl_64 hx.2
  have l1 := dg_len_bl (nv a * x)
  have h2 := ref02_Add_c (a := dg (nv a * x)) (b := [y]) (Wl_dg (by omega)) ⟨Ws_one hy, by simp⟩ (by omega) (by simp)
  rw [nv_one, nv_dg n1] at h2
  exact Ev.bind h1 (Ev.bind h2 (Ev.same rfl))
theorem ref03_Pow_l {a : List Int} (ha : Wl a) (hla : a.length ≤ 100000) {n : Nat} (hn : n ≤ 64) (d : Nat) : ∀ i : Nat, i + d = n → ∀ z : List Int, Wl z → z.length ≤ 64 * a.length + 1 → nv z = nv a ^ i → dg (nv z) = z →
    Ev (fun k => gradineref03_Pow.l0 k a z (n : Int) i) (dg (nv a ^ n)) := by
  have na := nv_nonneg ha.1
  have ba := bl_nv ha.1
  induction d with
  | zero =>
    intro i hi z hz hl he hd
    refine Ev.step (fun k => gradineref03_Pow.l0.eq_2 ..) ?_
    refine Ev.ifn (by omega) (Ev.same ?_)
    rw [← hd, he, show i = n by omega]
  | succ d ih =>
    intro i hi z hz hl he hd
    have e : wrap64 ((i : Int) + 1) = ((i + 1 : Nat) : Int) := by rw [w64_id (by omega) (by omega)]; omega
    have h1 := ref03_Mul_c hz ha (by omega) (by omega)
    rw [he, ← Int.pow_succ, Nat.succ_eq_add_one] at h1
    have p := pow_nn na (i + 1)
    have b1 := bl_pow_le na ba (i + 1) (by omega)
    have l1 := dg_len_bl (nv a ^ (i + 1))
    refine Ev.step (fun k => gradineref03_Pow.l0.eq_2 ..) ?_
    rw [e]
    refine Ev.ifp (by omega) (Ev.bind h1 ?_)
    exact ih (i + 1) (by omega) _ (Wl_dg (by omega)) (by omega) (nv_dg p) (by rw [nv_dg p])
theorem ref03_Pow_c {a : List Int} (ha : Wl a) (hla : a.length ≤ 100000) (n : Int) : Ev (fun k => gradineref03_Pow.f k a n) (dg (nv a ^ pown n)) := by
  unfold gradineref03_Pow.f
  rw [pown_eq]
  exact ref03_Pow_l ha hla (pown_le n) (pown n) 0 (by omega) [1] ⟨Ws_one (by unfold U; omega), by simp⟩ (by simp) (by rw [nv_one, Int.pow_zero]) (by rw [nv_one]; decide)
end Go.Proofs.Ytldcgclbgbhffaa.M
