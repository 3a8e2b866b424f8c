/- Arguments that are arrays or records, laid open. -/
import Derived.Test.YtbpggonjcnakgaaFbase
import Derived.WalkKit
import Derived.ProofKit
import Derived.OpenShut
import Derived.ShutString
import Derived.ChangeOld
import Derived.Below
import Derived.ChangeSame
import Derived.ChangeSlices
import Derived.WideShapes
import Derived.SizedLaws
import Derived.Test.YtbpggonjcnakgaaWWa
namespace Go.Proofs.Ytbpggonjcnakgaa.RS
open Go.ChangeShapes Go.WideShapes Go.ChangeAt Go.RowKit
set_option linter.unusedVariables false
section
variable {H : Type} {enc : TypeId × Value → H} {P : Program} {W : World} {base : Nat} {spare : Nat → Bool} {held : Bool}

theorem trod_struct4 {t : TypeId} {f0 f1 f2 f3 : Field} {fuel : Nat} {cs : List Value} {x : DataW H × List MemPlace} (ht : P.underlying t = some (.struct #[f0, f1, f2, f3])) (h : DataW.trod enc P W base spare held fuel t cs = some x) :
    ∃ y0 y1 y2 y3 n, x = (.agg [y0.1, y1.1, y2.1, y3.1], y0.2 ++ (y1.2 ++ (y2.2 ++ y3.2))) ∧ cs.length = P.cellsOf t ∧ DataW.trod enc P W base spare held n f0.type ((cs.drop f0.offset).take (P.cellsOf f0.type)) = some y0 ∧
      DataW.trod enc P W base spare held n f1.type ((cs.drop f1.offset).take (P.cellsOf f1.type)) = some y1 ∧ DataW.trod enc P W base spare held n f2.type ((cs.drop f2.offset).take (P.cellsOf f2.type)) = some y2 ∧ DataW.trod enc P W base spare held n f3.type ((cs.drop f3.offset).take (P.cellsOf f3.type)) = some y3 := by
  obtain ⟨xs, n, _, rfl, hl, hlen, hf⟩ := DataW.trod_struct ht h
  match xs, hlen with
  | [y0, y1, y2, y3], _ => exact ⟨y0, y1, y2, y3, n, by simp, hl, by simpa using hf 0 f0 rfl, by simpa using hf 1 f1 rfl, by simpa using hf 2 f2 rfl, by simpa using hf 3 f3 rfl⟩
/-- Two truths, a row and a number. -/
theorem open_big {t e : TypeId} {k k3 : IntKind} {f0 f1 f2 f3 : Field} {v : Value} {r : Reach} {d : DataW H} {ps : List MemPlace} (ht : P.underlying t = some (.struct #[f0, f1, f2, f3])) (o0 : f0.offset = 0) (o1 : f1.offset = 1) (o2 : f2.offset = 2) (o3 : f3.offset = 3)
    (c0 : P.cellsOf f0.type = 1) (c1 : P.cellsOf f1.type = 1) (c2 : P.cellsOf f2.type = 1) (c3 : P.cellsOf f3.type = 1) (hct : P.cellsOf t = 4) (u0 : P.underlying f0.type = some .bool) (u1 : P.underlying f1.type = some .bool) (u2 : P.underlying f2.type = some (.slice e)) (u3 : P.underlying f3.type = some (.int k3)) (he : P.underlying e = some (.int k)) (hce : P.cellsOf e = 1)
    {b0 : Nat} (ho : Value.okWide P W r b0 t v) (h : DataW.Trod enc P W base spare held t v d ps) :
    ∃ (s m : Bool) (a2 : Option Addr) (l2 n2 : Nat) (x : Int) (d2 d3 : DataW H) (p2 : List MemPlace), v = .agg #[.bool s, .bool m, .slice a2 l2 n2, .int k3 x] ∧ d = .agg [.lit (.bool s), .lit (.bool m), d2, d3] ∧
      DataW.Trod enc P W base spare held f2.type (.slice a2 l2 n2) d2 p2 ∧ (Lit.int k3 x).wf = true := by
  obtain ⟨cs, rfl, hs⟩ := okWide_struct ht ho
  rw [hct] at hs
  obtain ⟨x0, x1, x2, x3, rfl⟩ : ∃ x0 x1 x2 x3, cs = #[x0, x1, x2, x3] := by
    obtain ⟨l⟩ := cs
    match l, hs with
    | [x0, x1, x2, x3], _ => exact ⟨x0, x1, x2, x3, rfl⟩
  obtain ⟨fuel, hf⟩ := h
  have hf' : DataW.trod enc P W base spare held fuel t [x0, x1, x2, x3] = some (d, ps) := by simpa [Value.cells] using hf
  obtain ⟨y0, y1, y2, y3, n, hx, _, h0, h1, h2, h3⟩ := trod_struct4 ht hf'
  rw [o0, c0] at h0
  rw [o1, c1] at h1
  rw [o2, c2] at h2
  rw [o3, c3] at h3
  simp only [List.drop_zero, List.take_succ_cons, List.take_zero, List.drop_succ_cons] at h0 h1 h2 h3
  obtain ⟨s, e0, g0⟩ := DataW.trod_bool u0 h0
  obtain ⟨m, e1, g1⟩ := DataW.trod_bool u1 h1
  obtain ⟨x, e3, g3, w3⟩ := DataW.trod_int u3 h3
  obtain ⟨rfl, rfl⟩ := Prod.mk.inj hx
  cases e0
  cases e1
  cases e3
  subst g0
  subst g1
  rcases open_ints u2 he hce h2 with ⟨hcs, _⟩ | ⟨x', l, c', zs, hcs, _⟩
  · simp at hcs
    subst hcs
    exact ⟨s, m, none, 0, 0, x, y2.1, y3.1, y2.2, rfl, rfl, ⟨n, by simpa [Value.cells] using h2⟩, w3⟩
  · simp at hcs
    subst hcs
    exact ⟨s, m, some x', l, c', x, y2.1, y3.1, y2.2, rfl, rfl, ⟨n, by simpa [Value.cells] using h2⟩, w3⟩
/-- The weights of a record's parts. -/
theorem sized_parts {t : TypeId} {fs : Array Field} {parts : List (DataW H)} {ts : List TypeId} {ds : List (DataW H)} {j : Nat} (hsz : (DataW.weightsEach P ts ds).all (· ≤ reachBytes) = true) (ht : ts[j]? = some t) (hd : ds[j]? = some (.agg parts)) (hu : P.underlying t = some (.struct fs)) :
    (DataW.weightsEach P (fs.toList.map (·.type)) parts).all (· ≤ reachBytes) = true := by
  refine List.all_eq_true.2 fun x hx => List.all_eq_true.1 hsz x ?_
  exact DataW.weights_mem_each ht hd x (by simpa [DataW.weights, hu] using hx)
end
end Go.Proofs.Ytbpggonjcnakgaa.RS
