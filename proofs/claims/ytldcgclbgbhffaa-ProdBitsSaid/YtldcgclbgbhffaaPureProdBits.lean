/- A product has as many bits as both together, or one less, and stands right: for all numbers of up to 40 words. -/
import Derived.Test.YtldcgclbgbhffaaS03
import Derived.Test.YtldcgclbgbhffaaFgradinelaw03ProdBits
namespace Go.Proofs.Ytldcgclbgbhffaa.Pure
open Go.RowKit Go.Proofs.Ytldcgclbgbhffaa.P Go.Proofs.Ytldcgclbgbhffaa.M Go.Proofs.YtldcgclbgbhffaaW.PrintWords Go.Proofs.YtldcgclbgbhffaaW.PrintLast Go.Proofs.YtldcgclbgbhffaaW.PrintMore
theorem bl_prod {x y : Int} (hx : 0 < x) (hy : 0 < y) : bl (x * y) = bl x + bl y ∨ bl (x * y) = bl x + bl y - 1 := by
  have h1 := bl_mul (Int.le_of_lt hx) (Int.le_of_lt hy)
  have px := bl_pos hx
  have py := bl_pos hy
  have h2 := bl_le hx
  have h3 := bl_le hy
  have h4 : (2 : Int) ^ ((bl x - 1).toNat + (bl y - 1).toNat) ≤ x * y := by
    rw [Int.pow_add]
    exact Int.mul_le_mul h2 h3 (Int.le_of_lt (pow_pos _)) (Int.le_of_lt hx)
  have h5 := bl_mono h4
  have h6 := bl_eq (n := (bl x - 1).toNat + (bl y - 1).toNat) (Int.le_refl _) (by rw [Int.pow_succ]; have := pow_pos ((bl x - 1).toNat + (bl y - 1).toNat); omega)
  omega
theorem bl_zero_iff {x : Int} (hx : 0 ≤ x) : bl x = 0 ↔ x = 0 := by
  constructor
  · intro h
    rcases (show x = 0 ∨ 0 < x by omega) with h1 | h1
    · exact h1
    · have := bl_pos h1; omega
  · intro h; rw [h]; rfl
theorem pbits_in {a b : List Int} (ha : Wl a) (hb : Wl b) (la : a.length ≤ 40) (lb : b.length ≤ 40) : Ev (fun k => gradinelaw03_ProdBits.j0 k a b false) true := by
  have na := nv_nonneg ha.1
  have nb := nv_nonneg hb.1
  have ba := bl_nv ha.1
  have bb := bl_nv hb.1
  have ga := bl_nonneg (nv a)
  have gb := bl_nonneg (nv b)
  have nab := Int.mul_nonneg na nb
  have bab := bl_mul na nb
  have wab := Wl_dg (n := nv a * nv b) (by omega)
  have hB := nat_Bits_c wab
  have hR := nat_Right_c wab
  rw [nv_dg nab] at hB hR
  rw [decide_eq_true rfl] at hR
  refine Ev.step (fun k => gradinelaw03_ProdBits.j0.eq_2 ..) ?_
  refine Ev.ifn (by decide) (Ev.bind (prod_Mul_c ha hb (by omega) (by omega)) (Ev.bind (nat_Bits_c ha) (Ev.bind (nat_Bits_c hb) ?_)))
  have zero : nv a * nv b = 0 → Ev (fun k => gradinelaw03_ProdBits.j1 k (dg (nv a * nv b)) (bl (nv a)) (bl (nv b)) true) true := by
    intro h
    refine Ev.step (fun k => gradinelaw03_ProdBits.j1.eq_2 ..) ?_
    refine Ev.ifp rfl (Ev.ifp (by rw [h]; rfl) (Ev.bind law03_same_c (Ev.same rfl)))
  by_cases h1 : nv a = 0
  · exact Ev.ifp ((bl_zero_iff na).2 h1) (zero (by rw [h1, Int.zero_mul]))
  · refine Ev.ifn (fun h => h1 ((bl_zero_iff na).1 h)) ?_
    by_cases h2 : nv b = 0
    · rw [(beq_iff_eq).2 ((bl_zero_iff nb).2 h2)]
      exact zero (by rw [h2, Int.mul_zero])
    · have e : (bl (nv b) == 0) = false := by rw [beq_eq_false_iff_ne]; exact fun h => h2 ((bl_zero_iff nb).1 h)
      rw [e]
      have hp := bl_prod (x := nv a) (y := nv b) (by omega) (by omega)
      refine Ev.step (fun k => gradinelaw03_ProdBits.j1.eq_2 ..) ?_
      rw [w64_id (n := bl (nv a) + bl (nv b)) (by omega) (by omega), w64_id (n := bl (nv a) + bl (nv b) - 1) (by omega) (by omega)]
      refine Ev.ifn (by decide) (Ev.bind hB ?_)
      by_cases h3 : bl (nv a * nv b) = bl (nv a) + bl (nv b)
      · exact Ev.ifp h3 (Ev.bindc hR (Ev.ifp rfl (Ev.bind law03_same_c (Ev.same rfl))))
      · exact Ev.ifn h3 (Ev.bind hB (Ev.ifp (by omega) (Ev.bindc hR (Ev.ifp rfl (Ev.bind law03_same_c (Ev.same rfl))))))
theorem pbits_out (a b : List Int) : Ev (fun k => gradinelaw03_ProdBits.j0 k a b true) true := by
  refine Ev.step (fun k => gradinelaw03_ProdBits.j0.eq_2 ..) ?_
  exact Ev.ifp rfl (Ev.bind law03_same_c (Ev.same rfl))
theorem ProdBits : gradinelaw03_ProdBits.Pure := by
  intro a b _ _ ha _ _ hb
  refine Ev.rounds ?_
  by_cases la : (a.length : Int) > 40
  · exact Ev.ifp la (pbits_out a b)
  · refine Ev.ifn la ?_
    by_cases lb : (b.length : Int) > 40
    · rw [decide_eq_true lb]; exact pbits_out a b
    · rw [decide_eq_false lb]
      exact pbits_in (Wl_of (m := 40) ha (by omega)) (Wl_of (m := 40) hb (by omega)) (by omega) (by omega)
end Go.Proofs.Ytldcgclbgbhffaa.Pure
