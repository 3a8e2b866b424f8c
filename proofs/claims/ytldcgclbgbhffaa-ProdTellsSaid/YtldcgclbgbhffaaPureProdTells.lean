/- Any product of two numbers, and of a number and a word, with a word more: for all numbers of up to 40 words. -/
import Derived.Test.YtldcgclbgbhffaaFgradinelaw03same
import Derived.Test.YtldcgclbgbhffaaS03
import Derived.Test.YtldcgclbgbhffaaC03w
import Derived.Test.YtldcgclbgbhffaaC03q
import Derived.Test.YtldcgclbgbhffaaFgradinelaw03ProdTells
namespace Go.Proofs.Ytldcgclbgbhffaa.Pure
open Go.RowKit Go.Proofs.Ytldcgclbgbhffaa.P Go.Proofs.Ytldcgclbgbhffaa.M Go.Proofs.YtldcgclbgbhffaaW.PrintWords Go.Proofs.YtldcgclbgbhffaaW.PrintLast Go.Proofs.YtldcgclbgbhffaaW.PrintMore

def ProdTellsS : Prop := ∀ (l0 l1 : List Int) (x y : Int), l0.length ≤ maxLen → l0.length * 8 ≤ 140737488351232 → (∀ x ∈ l0, (Lit.int .u64 x).wf = true) → l1.length ≤ maxLen → l1.length * 8 ≤ 140737488351232 → (∀ x ∈ l1, (Lit.int .u64 x).wf = true) → (Lit.int .u64 x).wf = true → (Lit.int .u64 y).wf = true → ∃ k, gradinelaw03_ProdTells.f k l0 l1 x y = some true
theorem ptells_in {a b : List Int} {x y : Int} (ha : Wl a) (hb : Wl b) (hx : U x) (hy : U y) (la : a.length ≤ 40) (lb : b.length ≤ 40) : Ev (fun k => gradinelaw03_ProdTells.j0 k a b false x y) true := by
  have na := nv_nonneg ha.1
  have nb := nv_nonneg hb.1
  have ba := bl_nv ha.1
  have bb := bl_nv hb.1
  have bm := bl_mul na nb
  have lm := dg_len_bl (nv a * nv b)
  have bx := bl_64 hx.2
  have by1 := bl_64 hy.2
  have bw := bl_mul na hx.1
  have bs := bl_add (Int.mul_nonneg na hx.1) hy.1 (m := 3000) (by omega) (by omega)
  have lw := dg_len_bl (nv a * x + y)
  have done : Ev (fun k => (gradinelaw03_same.f k).bind fun t => some t) true := Ev.bind law03_same_c (Ev.same rfl)
  refine Ev.step (fun k => gradinelaw03_ProdTells.j0.eq_2 ..) (Ev.ifn (by decide) ?_)
  refine Ev.bind (prod_Mul_c ha hb (by omega) (by omega)) (Ev.bind (ref03_Mul_c ha hb (by omega) (by omega)) (Ev.bind (Words_c (a := dg (nv a * nv b)) (by omega)) (Ev.ifp (by simp) ?_)))
  exact Ev.bind (prod_Word_c ha (by omega) hx hy) (Ev.bind (ref03_Word_c ha (by omega) hx hy) (Ev.bind (Words_c (a := dg (nv a * x + y)) (by omega)) (Ev.ifp (by simp) done)))
theorem ProdTells : ProdTellsS := by
  intro a b x y _ _ ha _ _ hb hx hy
  have hx : U x := wf_u64 hx
  have hy : U y := wf_u64 hy
  refine Ev.rounds ?_
  have out : Ev (fun k => gradinelaw03_ProdTells.j0 k a b true x y) true := Ev.step (fun k => gradinelaw03_ProdTells.j0.eq_2 ..) (Ev.ifp rfl (Ev.bind law03_same_c (Ev.same rfl)))
  by_cases la : (a.length : Int) > 40
  · exact Ev.ifp la out
  · refine Ev.ifn la ?_
    by_cases lb : (b.length : Int) > 40
    · rw [decide_eq_true lb]; exact out
    · rw [decide_eq_false lb]
      exact ptells_in (Wl_of (m := 40) ha (by omega)) (Wl_of (m := 40) hb (by omega)) hx hy (by omega) (by omega)
end Go.Proofs.Ytldcgclbgbhffaa.Pure
