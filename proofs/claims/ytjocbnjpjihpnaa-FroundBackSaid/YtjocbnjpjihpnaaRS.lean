/- Arguments that are arrays or records, laid open. -/
import Derived.Test.YtjocbnjpjihpnaaFbase
import Derived.WalkKit
import Derived.ProofKit
import Derived.OpenShut
import Derived.ShutString
import Derived.ChangeOld
import Derived.Below
import Derived.ChangeSame
import Derived.ChangeSlices
import Derived.WideShapes
import Derived.SizedLaws
import Derived.Test.YtjocbnjpjihpnaaWWa
namespace Go.Proofs.Ytjocbnjpjihpnaa.RS
open Go.ChangeShapes Go.WideShapes Go.ChangeAt Go.RowKit
set_option linter.unusedVariables false
section
variable {H : Type} {enc : TypeId × Value → H} {P : Program} {W : World} {base : Nat} {spare : Nat → Bool} {held : Bool}

theorem trod_struct3 {t : TypeId} {f0 f1 f2 : Field} {fuel : Nat} {cs : List Value} {x : DataW H × List MemPlace} (ht : P.underlying t = some (.struct #[f0, f1, f2])) (h : DataW.trod enc P W base spare held fuel t cs = some x) :
    ∃ y0 y1 y2 n, x = (.agg [y0.1, y1.1, y2.1], y0.2 ++ (y1.2 ++ y2.2)) ∧ cs.length = P.cellsOf t ∧ DataW.trod enc P W base spare held n f0.type ((cs.drop f0.offset).take (P.cellsOf f0.type)) = some y0 ∧
      DataW.trod enc P W base spare held n f1.type ((cs.drop f1.offset).take (P.cellsOf f1.type)) = some y1 ∧ DataW.trod enc P W base spare held n f2.type ((cs.drop f2.offset).take (P.cellsOf f2.type)) = some y2 := by
  obtain ⟨xs, n, _, rfl, hl, hlen, hf⟩ := DataW.trod_struct ht h
  match xs, hlen with
  | [y0, y1, y2], _ => exact ⟨y0, y1, y2, n, by simp, hl, by simpa using hf 0 f0 rfl, by simpa using hf 1 f1 rfl, by simpa using hf 2 f2 rfl⟩
/-- A truth and two rows. -/
theorem open_rat {t e : TypeId} {k : IntKind} {f0 f1 f2 : Field} {v : Value} {r : Reach} {d : DataW H} {ps : List MemPlace} (ht : P.underlying t = some (.struct #[f0, f1, f2])) (o0 : f0.offset = 0) (o1 : f1.offset = 1) (o2 : f2.offset = 2)
    (c0 : P.cellsOf f0.type = 1) (c1 : P.cellsOf f1.type = 1) (c2 : P.cellsOf f2.type = 1) (hct : P.cellsOf t = 3) (u0 : P.underlying f0.type = some .bool) (u1 : P.underlying f1.type = some (.slice e)) (u2 : P.underlying f2.type = some (.slice e)) (he : P.underlying e = some (.int k)) (hce : P.cellsOf e = 1)
    {b0 : Nat} (ho : Value.okWide P W r b0 t v) (h : DataW.Trod enc P W base spare held t v d ps) :
    ∃ (s : Bool) (a1 : Option Addr) (l1 n1 : Nat) (a2 : Option Addr) (l2 n2 : Nat) (d1 d2 : DataW H) (p1 p2 : List MemPlace), v = .agg #[.bool s, .slice a1 l1 n1, .slice a2 l2 n2] ∧ d = .agg [.lit (.bool s), d1, d2] ∧
      DataW.Trod enc P W base spare held f1.type (.slice a1 l1 n1) d1 p1 ∧ DataW.Trod enc P W base spare held f2.type (.slice a2 l2 n2) d2 p2 := by
  obtain ⟨cs, rfl, hs⟩ := okWide_struct ht ho
  rw [hct] at hs
  obtain ⟨x0, x1, x2, rfl⟩ : ∃ x0 x1 x2, cs = #[x0, x1, x2] := by
    obtain ⟨l⟩ := cs
    match l, hs with
    | [x0, x1, x2], _ => exact ⟨x0, x1, x2, rfl⟩
  obtain ⟨fuel, hf⟩ := h
  have hf' : DataW.trod enc P W base spare held fuel t [x0, x1, x2] = some (d, ps) := by simpa [Value.cells] using hf
  obtain ⟨y0, y1, y2, n, hx, _, h0, h1, h2⟩ := trod_struct3 ht hf'
  rw [o0, c0] at h0
  rw [o1, c1] at h1
  rw [o2, c2] at h2
  simp only [List.drop_zero, List.take_succ_cons, List.take_zero, List.drop_succ_cons] at h0 h1 h2
  obtain ⟨s, e0, g0⟩ := DataW.trod_bool u0 h0
  obtain ⟨rfl, rfl⟩ := Prod.mk.inj hx
  cases e0
  subst g0
  have key : ∀ {f : Field} {c : Value} {y : DataW H × List MemPlace}, P.underlying f.type = some (.slice e) → DataW.trod enc P W base spare held n f.type [c] = some y → ∃ (a : Option Addr) (l m : Nat), c = .slice a l m ∧ DataW.Trod enc P W base spare held f.type (.slice a l m) y.1 y.2 := by
    intro f c y hu hy
    rcases open_ints hu he hce hy with ⟨hcs, _⟩ | ⟨x, l, c', zs, hcs, _⟩
    · simp at hcs
      subst hcs
      exact ⟨none, 0, 0, rfl, n, by simpa [Value.cells] using hy⟩
    · simp at hcs
      subst hcs
      exact ⟨some x, l, c', rfl, n, by simpa [Value.cells] using hy⟩
  obtain ⟨a1, l1, n1, rfl, t1⟩ := key u1 h1
  obtain ⟨a2, l2, n2, rfl, t2⟩ := key u2 h2
  exact ⟨s, a1, l1, n1, a2, l2, n2, y1.1, y2.1, y1.2, y2.2, rfl, rfl, t1, t2⟩
/-- The weights of a record's parts. -/
theorem sized_parts {t : TypeId} {fs : Array Field} {parts : List (DataW H)} {ts : List TypeId} {ds : List (DataW H)} {j : Nat} (hsz : (DataW.weightsEach P ts ds).all (· ≤ reachBytes) = true) (ht : ts[j]? = some t) (hd : ds[j]? = some (.agg parts)) (hu : P.underlying t = some (.struct fs)) :
    (DataW.weightsEach P (fs.toList.map (·.type)) parts).all (· ≤ reachBytes) = true := by
  refine List.all_eq_true.2 fun x hx => List.all_eq_true.1 hsz x ?_
  exact DataW.weights_mem_each ht hd x (by simpa [DataW.weights, hu] using hx)
end
end Go.Proofs.Ytjocbnjpjihpnaa.RS
