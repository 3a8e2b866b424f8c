/- The row of a law: written by a program of this session. -/
import Derived.Test.YtjocbnjpjihpnaaFbase
import Derived.Test.YtjocbnjpjihpnaaFgradinelaw10FroundNearest
import Derived.Test.YtjocbnjpjihpnaaRows
import Derived.Test.YtjocbnjpjihpnaaAgradinelaw10FroundNearestc
import Derived.Test.YtjocbnjpjihpnaaPureFroundNearest
import Derived.Test.YtjocbnjpjihpnaaIo
import Derived.Test.YtjocbnjpjihpnaaRS
import Derived.Test.YtjocbnjpjihpnaaWWa
import Derived.WalkKit
import Derived.ProofKit
import Derived.OpenShut
import Derived.ShutString
import Derived.ChangeOld
import Derived.Below
import Derived.SizedLaws
namespace Go.Proofs.Ytjocbnjpjihpnaa.froundNearest
open Go.ChangeShapes Go.WideShapes Go.ChangeAt Go.RowKit Go.Proofs.YtjocbnjpjihpnaaW.PrintWords Go.Proofs.YtjocbnjpjihpnaaW.PrintLast Go.Proofs.YtjocbnjpjihpnaaW.PrintMore
open Go.ChangeMaps (open_string shut_string)
set_option linter.unusedVariables false
theorem own : ownKnob Try.prog.godebug = none := by kernel_rfl
theorem laidOut : laidOutB Try.prog = true := by kernel_rfl
def IsRow (k : IntKind) (w : World) (a : Option Addr) (len cap : Nat) (zs : List Int) : Prop :=
  (a = none ∧ len = 0 ∧ cap = 0 ∧ zs = []) ∨
  ∃ x, a = some x ∧ len ≤ cap ∧ cap ≤ maxLen ∧ zs.length = cap ∧ (∀ i, i < zs.length → w.cell? (x.add i) = some (.int k (zs.getD i 0))) ∧ ∀ n ∈ zs, (Lit.int k n).wf = true
theorem walk (PU : Pure.FroundNearestS) (b0 : Bool) (a0_1 : Option Addr) (len0_1 cap0_1 : Nat) (z0_1 : List Int) (a0_2 : Option Addr) (len0_2 cap0_2 : Nat) (z0_2 : List Int) (n1 : Int) (w : World) (w0_1 : IsRow .u64 w a0_1 len0_1 cap0_1 z0_1) (y0_1 : len0_1 * 8 ≤ 140737488351232) (w0_2 : IsRow .u64 w a0_2 len0_2 cap0_2 z0_2) (y0_2 : len0_2 * 8 ≤ 140737488351232) (f1 : (Lit.int .u64 n1).wf = true) :
    Calls Try.prog 5 #[.agg #[.bool b0, .slice a0_1 len0_1 cap0_1, .slice a0_2 len0_2 cap0_2], .int .u64 n1] w fun e w' => e = .returned (.bool true) ∧ Below w.heap.size w w' := by
  obtain ⟨l0_1, rfl, hr0_1, hm0_1, hw0_1, hc0_1⟩ := ReadsInt.ofRowC w0_1
  obtain ⟨l0_2, rfl, hr0_2, hm0_2, hw0_2, hc0_2⟩ := ReadsInt.ofRowC w0_2
  obtain ⟨k, h⟩ := PU b0 l0_1 l0_2 n1 hm0_1 y0_1 hw0_1 hm0_2 y0_2 hw0_2 f1
  refine (Go.Proofs.Ytjocbnjpjihpnaa.P.gradinelaw10_FroundNearest.calls k b0 _ _ l0_1 _ _ l0_2 n1 true w (Kd.C_of_reads (d := (0 : Int)) (h1 := fun _ => rfl) hr0_1) hc0_1 (Kd.C_of_reads (d := (0 : Int)) (h1 := fun _ => rfl) hr0_2) hc0_2 h).mono ?_
  rintro e w' ⟨rfl, hd⟩
  exact ⟨rfl, hd⟩
set_option maxRecDepth 100000 in
theorem lifted (os : Os) (started : os.Started) (H : Type) (enc : TypeId × Value → H) :
    ReturnsInHanded {} Try.checked os 5 .any (Rows.froundNearestSpec.pre6 enc Try.prog Try.f5 Rows.froundNearestRow.domain false) (Rows.froundNearestSpec.post enc Try.prog Try.f5 false true false false) := by
  refine returnsInHanded_of_change_sized (C := Try.checked) own started (by kernel_rfl) Try.func5
    (ChangeSpec.witness6 (enc := enc) (C := Try.checked) false ⟨#[], #[.agg #[.bool false, .slice none 0 0, .slice none 0 0], .int .u64 0], []⟩ 8 (by kernel_rfl) (by kernel_rfl) (by kernel_rfl) (by kernel_rfl)) ?_
  intro W base args ds gs before hval0 hW hcnd hsz0 _
  have hsz : (DataW.weightsEach Try.prog (Try.f5.params.toList ++ Rows.froundNearestSpec.plain.varTypes Try.prog) (ds ++ gs)).all (· ≤ reachBytes) = true := hsz0
  have hval : ∀ (j : Nat) t v, Try.f5.params[j]? = some t → args[j]? = some v → Value.okWide Try.prog W .any base t v := hval0
  have hW' := hW
  obtain ⟨p, q, hA0, hV, rfl, hfz, hnd⟩ := hW
  have hA : DataW.TrodAll enc Try.prog W 0 (fun _ => true) true Try.f5.params.toList args.toList ds p := hA0
  rw [Try.params5] at hA hval hsz
  obtain ⟨v0, vs0, d0, ds0, p0, q0, hargs, rfl, rfl, h0, r0⟩ := trodAll_cons hA
  obtain ⟨v1, vs1, d1, ds1, p1, q1, rfl, rfl, rfl, h1, r1⟩ := trodAll_cons r0
  obtain ⟨rfl, rfl, rfl⟩ := trodAll_nil r1
  obtain rfl : args = #[v0, v1] := by cases args; simp_all
  obtain ⟨rfl, rfl⟩ := trodVars_none hV
  have k0 := h0
  have lt0 : ∀ x ∈ p0, x.block < W.heap.size := by obtain ⟨m, hm⟩ := k0; exact DataW.trod_lt m _ _ _ hm
  obtain ⟨b0, a0_1, len0_1, cap0_1, a0_2, len0_2, cap0_2, e0_1, e0_2, g0_1, g0_2, rfl, rfl, t0_1, t0_2⟩ := RS.open_rat Try.underlying30 rfl rfl rfl (by kernel_rfl) (by kernel_rfl) (by kernel_rfl) (by kernel_rfl) Try.underlying4 Try.underlying28 Try.underlying28 Try.underlying22 (by kernel_rfl) (hval 0 30 v0 rfl rfl) h0
  have hsz0 := RS.sized_parts hsz (j := 0) (t := 30) rfl rfl Try.underlying30
  obtain ⟨z0_1, w0_1⟩ : ∃ zs, IsRow .u64 W a0_1 len0_1 cap0_1 zs := by
    obtain ⟨fuel, hf⟩ := t0_1
    rcases open_ints Try.underlying28 Try.underlying22 (by kernel_rfl) hf with ⟨hcs, _⟩ | ⟨x, l, c, zs, hcs, _, hl, hm, hz, _, hcell, hwz⟩
    · simp [Value.cells] at hcs
      obtain ⟨rfl, rfl, rfl⟩ := hcs
      exact ⟨[], .inl ⟨rfl, rfl, rfl, rfl⟩⟩
    · simp [Value.cells] at hcs
      obtain ⟨rfl, rfl, rfl⟩ := hcs
      exact ⟨zs, .inr ⟨_, rfl, hl, hm, by simpa using hz, hcell, hwz⟩⟩
  have y0_1 : len0_1 * 8 ≤ 140737488351232 := Go.Proofs.YtjocbnjpjihpnaaW.PrintWords.sized_ints hsz0 (j := 1) (t := 28) rfl rfl Try.underlying28 Try.underlying22 (by kernel_rfl) (by kernel_rfl) t0_1
  obtain ⟨z0_2, w0_2⟩ : ∃ zs, IsRow .u64 W a0_2 len0_2 cap0_2 zs := by
    obtain ⟨fuel, hf⟩ := t0_2
    rcases open_ints Try.underlying28 Try.underlying22 (by kernel_rfl) hf with ⟨hcs, _⟩ | ⟨x, l, c, zs, hcs, _, hl, hm, hz, _, hcell, hwz⟩
    · simp [Value.cells] at hcs
      obtain ⟨rfl, rfl, rfl⟩ := hcs
      exact ⟨[], .inl ⟨rfl, rfl, rfl, rfl⟩⟩
    · simp [Value.cells] at hcs
      obtain ⟨rfl, rfl, rfl⟩ := hcs
      exact ⟨zs, .inr ⟨_, rfl, hl, hm, by simpa using hz, hcell, hwz⟩⟩
  have y0_2 : len0_2 * 8 ≤ 140737488351232 := Go.Proofs.YtjocbnjpjihpnaaW.PrintWords.sized_ints hsz0 (j := 2) (t := 28) rfl rfl Try.underlying28 Try.underlying22 (by kernel_rfl) (by kernel_rfl) t0_2
  have k1 := h1
  have lt1 : ∀ x ∈ p1, x.block < W.heap.size := by obtain ⟨m, hm⟩ := k1; exact DataW.trod_lt m _ _ _ hm
  obtain ⟨n1, rfl, _, _, f1⟩ := open_int Try.underlying22 (hval 1 22 v1 rfl rfl) h1
  clear hA0 hval0 hsz0 hsz
  refine (walk Pure.FroundNearest b0 a0_1 len0_1 cap0_1 z0_1 a0_2 len0_2 cap0_2 z0_2 n1 W w0_1 y0_1 w0_2 y0_2 f1).mono fun e W' ⟨he, bel⟩ => ?_
  subst he
  exact ⟨_, rfl, _, _, _, [], _, [], hW', trodAll_mk1 (shut_bool Try.underlying4 _), (trodAll_cons_mk (Below.trod laidOut (by kernel_rfl) (of_decide_eq_true (by kernel_rfl)) k0 bel lt0) (trodAll_cons_mk (Below.trod laidOut (by kernel_rfl) (of_decide_eq_true (by kernel_rfl)) k1 bel lt1) trodAll_mk0)), rfl, bel.frame _, fun h => by cases h⟩
theorem closed : joinedFacts Try.prog 5 Try.f5 Rows.froundNearestSpec Rows.froundNearestRow = true :=
  Io.joined_of Io.mayEnter_t Io.liftsFinal_t (by kernel_rfl) Io.make_t (by kernel_rfl) (by kernel_rfl) (by kernel_rfl) (by kernel_rfl) (by kernel_rfl) (by kernel_rfl) (by kernel_rfl) (by kernel_rfl) (by kernel_rfl) (by kernel_rfl) (by kernel_rfl) (by kernel_rfl) (by kernel_rfl) (by kernel_rfl) (by kernel_rfl) (by kernel_rfl) (by kernel_rfl) (by kernel_rfl) (by kernel_rfl) (by kernel_rfl) (by kernel_rfl) (by kernel_rfl) (by kernel_rfl) (by kernel_rfl) (by kernel_rfl) (by kernel_rfl) (by kernel_rfl) (by kernel_rfl) (by kernel_rfl) (by kernel_rfl)
theorem over : Rows.froundNearestRow.holds Try.pinned (OpenSpec.ofChange Rows.froundNearestSpec) :=
  OpenClaim.holds_of_wide 5 Try.f5 rfl rfl rfl rfl rfl rfl rfl ⟨rfl, rfl, rfl, rfl, rfl⟩ rfl rfl rfl rfl rfl (by kernel_rfl) Try.func5 closed
    (of_decide_eq_true (by kernel_rfl)) (by unfold Func.isWrapper; first | (rw [if_pos (by decide +kernel)]; kernel_rfl) | (rw [if_neg (by decide +kernel)]; exact ⟨rfl, rfl⟩))
    (fun os started H enc _ => lifted os started H enc)
theorem proved : Rows.FroundNearestSaid := over
#print axioms proved
end Go.Proofs.Ytjocbnjpjihpnaa.froundNearest
namespace Go.Proofs.Ytjocbnjpjihpnaa
/-- The row, under a short name, for the claim. -/
theorem froundNearest_holds : Rows.FroundNearestSaid := froundNearest.proved
end Go.Proofs.Ytjocbnjpjihpnaa
