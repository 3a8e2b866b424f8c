/- What the reference's comparison by numbers answers. -/
import Derived.Test.YtbpggonjcnakgaaBgradineref13
import Derived.Test.YtbpggonjcnakgaaC10t
import Derived.Test.YtbpggonjcnakgaaC13
namespace Go.Proofs.Ytbpggonjcnakgaa.M
open Go.RowKit Go.Proofs.Ytbpggonjcnakgaa.P Go.Proofs.YtbpggonjcnakgaaW.PrintWords Go.Proofs.YtbpggonjcnakgaaW.PrintLast Go.Proofs.YtbpggonjcnakgaaW.PrintMore
set_option linter.unusedVariables false

def ordI (b : Int) : Int := if fk b = 3 then (if fs b then -2 else 2) else 0
theorem ref13_order_c {b : Int} (h : U b) : gradineref13_order.f b = some (ordI b) := by
  unfold gradineref13_order.f ordI
  rw [ref09_Kind_c h, ref09_Neg_c h]
  show (if fk b = 3 then (if fs b = true then some (-2) else some 2) else some 0) = _
  split
  · split <;> rfl
  · rfl
theorem mw_INF {b : Int} (h4 : fk b ≠ 4) : mw b ≤ INF ∧ (mw b = INF ↔ fk b = 3) := by
  have k := fk_eq b
  have a1 := @fx_range b
  have a2 := @fr_range b
  unfold mw INF
  omega
theorem ord_key {a b : Int} (ha : U a) (hb : U b) (h1 : fk a ≠ 4) (h2 : fk b ≠ 4) (h : ordI a ≠ ordI b ∨ ordI a ≠ 0) : sgnI (fkey a - fkey b) = mn (mx (wrap64 (ordI a - ordI b)) (-1)) 1 := by
  have i1 := mw_INF h1
  have i2 := mw_INF h2
  have n1 := mw_nonneg a
  have n2 := mw_nonneg b
  rw [fkey_mw ha, fkey_mw hb]
  have hI : INF = 9218868437227405312 := rfl
  unfold ordI at *
  unfold sgI sgnI mn mx wrap64
  by_cases k1 : fk a = 3
  · have e1 := i1.2.2 k1
    by_cases k2 : fk b = 3
    · have e2 := i2.2.2 k2
      rw [if_pos k1, if_pos k2, e1, e2]
      cases fs a <;> cases fs b <;> simp <;> omega
    · have e2 : mw b ≠ INF := fun k => k2 (i2.2.1 k)
      rw [if_pos k1, if_neg k2, e1]
      cases fs a <;> cases fs b <;> simp only [if_true, Bool.false_eq_true, if_false] <;> (repeat' split) <;> omega
  · have e1 : mw a ≠ INF := fun k => k1 (i1.2.1 k)
    by_cases k2 : fk b = 3
    · have e2 := i2.2.2 k2
      rw [if_neg k1, if_pos k2, e2]
      cases fs a <;> cases fs b <;> simp only [if_true, Bool.false_eq_true, if_false] <;> (repeat' split) <;> omega
    · rw [if_neg k1, if_neg k2] at h
      omega
theorem sgnI_key {a b : Int} (ha : U a) (hb : U b) : sgnI (SV a - SV b) = sgnI (fkey a - fkey b) := by
  have k := key_iff ha hb
  unfold sgnI
  generalize SV a = x at *
  generalize SV b = y at *
  generalize fkey a = z at *
  generalize fkey b = w at *
  split <;> split <;> (try split) <;> (try split) <;> omega
theorem ref13_Cmp_none {a b : Int} (ha : U a) (hb : U b) (h : fk a = 4 ∨ fk b = 4) : Ev (fun k => gradineref13_Cmp.f k a b) 2 := by
  refine Ev.bindc (ref09_Kind_c ha) ?_
  have j0 : ∀ t : Bool, t = true → Ev (fun k => gradineref13_Cmp.j0 k a b t) 2 := fun t ht => Ev.step (fun k => gradineref13_Cmp.j0.eq_2 ..) (Ev.ifp ht (Ev.same rfl))
  by_cases h1 : fk a = 4
  · exact Ev.ifp h1 (j0 _ rfl)
  · exact Ev.ifn h1 (Ev.bindc (ref09_Kind_c hb) (j0 _ (by rw [h.resolve_left h1]; rfl)))
theorem ref13_Cmp_c {a b : Int} (ha : U a) (hb : U b) (h1 : fk a ≠ 4) (h2 : fk b ≠ 4) : Ev (fun k => gradineref13_Cmp.f k a b) (sgnI (fkey a - fkey b)) := by
  refine Ev.bindc (ref09_Kind_c ha) (Ev.ifn h1 (Ev.bindc (ref09_Kind_c hb) ?_))
  refine Ev.step (fun k => gradineref13_Cmp.j0.eq_2 ..) (Ev.ifn (by simp [h2]) (Ev.bindc (ref13_order_c ha) (Ev.bindc (ref13_order_c hb) ?_)))
  have j1 : ∀ t : Bool, (t = true ↔ (ordI a ≠ ordI b ∨ ordI a ≠ 0)) → Ev (fun k => gradineref13_Cmp.j1 k a b (ordI a) (ordI b) t) (sgnI (fkey a - fkey b)) := by
    intro t ht
    refine Ev.step (fun k => gradineref13_Cmp.j1.eq_2 ..) ?_
    by_cases h : ordI a ≠ ordI b ∨ ordI a ≠ 0
    · refine Ev.ifp (ht.2 h) (Ev.same ?_)
      rw [ord_key ha hb h1 h2 h]
    · refine Ev.ifn (fun k => h (ht.1 k)) (Ev.bind (ref10_ToRat_c ha) (Ev.bind (ref10_ToRat_c hb) (Ev.bind (ref07_Cmp_c (fit_V a) (fit_V b)) (Ev.same ?_))))
      rw [sgn_LL, sgnI_key ha hb]
  by_cases h : ordI a = ordI b
  · exact Ev.ifp h (j1 _ (by simp [h]))
  · exact Ev.ifn h (j1 _ (by simp [h]))
end Go.Proofs.Ytbpggonjcnakgaa.M
