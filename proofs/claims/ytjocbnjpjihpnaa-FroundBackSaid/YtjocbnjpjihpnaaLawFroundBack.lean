/- The row of a law: written by a program of this session. -/
import Derived.Test.YtjocbnjpjihpnaaFbase
import Derived.Test.YtjocbnjpjihpnaaFgradinelaw10FroundBack
import Derived.Test.YtjocbnjpjihpnaaRows
import Derived.Test.YtjocbnjpjihpnaaAgradinelaw10FroundBackc
import Derived.Test.YtjocbnjpjihpnaaPureFroundBack
import Derived.Test.YtjocbnjpjihpnaaIo
import Derived.Test.YtjocbnjpjihpnaaRS
import Derived.Test.YtjocbnjpjihpnaaWWa
import Derived.WalkKit
import Derived.ProofKit
import Derived.OpenShut
import Derived.ShutString
import Derived.ChangeOld
import Derived.Below
import Derived.SizedLaws
namespace Go.Proofs.Ytjocbnjpjihpnaa.froundBack
open Go.ChangeShapes Go.WideShapes Go.ChangeAt Go.RowKit Go.Proofs.YtjocbnjpjihpnaaW.PrintWords Go.Proofs.YtjocbnjpjihpnaaW.PrintLast Go.Proofs.YtjocbnjpjihpnaaW.PrintMore
open Go.ChangeMaps (open_string shut_string)
set_option linter.unusedVariables false
theorem own : ownKnob Try.prog.godebug = none := by kernel_rfl
theorem laidOut : laidOutB Try.prog = true := by kernel_rfl
def IsRow (k : IntKind) (w : World) (a : Option Addr) (len cap : Nat) (zs : List Int) : Prop :=
  (a = none ∧ len = 0 ∧ cap = 0 ∧ zs = []) ∨
  ∃ x, a = some x ∧ len ≤ cap ∧ cap ≤ maxLen ∧ zs.length = cap ∧ (∀ i, i < zs.length → w.cell? (x.add i) = some (.int k (zs.getD i 0))) ∧ ∀ n ∈ zs, (Lit.int k n).wf = true
theorem walk (PU : Pure.FroundBackS) (n0 : Int) (b1 : Bool) (a1_1 : Option Addr) (len1_1 cap1_1 : Nat) (z1_1 : List Int) (a1_2 : Option Addr) (len1_2 cap1_2 : Nat) (z1_2 : List Int) (b2 : Bool) (a2_1 : Option Addr) (len2_1 cap2_1 : Nat) (z2_1 : List Int) (a2_2 : Option Addr) (len2_2 cap2_2 : Nat) (z2_2 : List Int) (w : World) (f0 : (Lit.int .u64 n0).wf = true) (w1_1 : IsRow .u64 w a1_1 len1_1 cap1_1 z1_1) (y1_1 : len1_1 * 8 ≤ 140737488351232) (w1_2 : IsRow .u64 w a1_2 len1_2 cap1_2 z1_2) (y1_2 : len1_2 * 8 ≤ 140737488351232) (w2_1 : IsRow .u64 w a2_1 len2_1 cap2_1 z2_1) (y2_1 : len2_1 * 8 ≤ 140737488351232) (w2_2 : IsRow .u64 w a2_2 len2_2 cap2_2 z2_2) (y2_2 : len2_2 * 8 ≤ 140737488351232) :
    Calls Try.prog 6 #[.int .u64 n0, .agg #[.bool b1, .slice a1_1 len1_1 cap1_1, .slice a1_2 len1_2 cap1_2], .agg #[.bool b2, .slice a2_1 len2_1 cap2_1, .slice a2_2 len2_2 cap2_2]] w fun e w' => e = .returned (.bool true) ∧ Below w.heap.size w w' := by
  obtain ⟨l1_1, rfl, hr1_1, hm1_1, hw1_1, hc1_1⟩ := ReadsInt.ofRowC w1_1
  obtain ⟨l1_2, rfl, hr1_2, hm1_2, hw1_2, hc1_2⟩ := ReadsInt.ofRowC w1_2
  obtain ⟨l2_1, rfl, hr2_1, hm2_1, hw2_1, hc2_1⟩ := ReadsInt.ofRowC w2_1
  obtain ⟨l2_2, rfl, hr2_2, hm2_2, hw2_2, hc2_2⟩ := ReadsInt.ofRowC w2_2
  obtain ⟨k, h⟩ := PU n0 b1 l1_1 l1_2 b2 l2_1 l2_2 f0 hm1_1 y1_1 hw1_1 hm1_2 y1_2 hw1_2 hm2_1 y2_1 hw2_1 hm2_2 y2_2 hw2_2
  refine (Go.Proofs.Ytjocbnjpjihpnaa.P.gradinelaw10_FroundBack.calls k n0 b1 _ _ l1_1 _ _ l1_2 b2 _ _ l2_1 _ _ l2_2 true w (Kd.C_of_reads (d := (0 : Int)) (h1 := fun _ => rfl) hr1_1) hc1_1 (Kd.C_of_reads (d := (0 : Int)) (h1 := fun _ => rfl) hr1_2) hc1_2 (Kd.C_of_reads (d := (0 : Int)) (h1 := fun _ => rfl) hr2_1) hc2_1 (Kd.C_of_reads (d := (0 : Int)) (h1 := fun _ => rfl) hr2_2) hc2_2 h).mono ?_
  rintro e w' ⟨rfl, hd⟩
  exact ⟨rfl, hd⟩
set_option maxRecDepth 100000 in
theorem lifted (os : Os) (started : os.Started) (H : Type) (enc : TypeId × Value → H) :
    ReturnsInHanded {} Try.checked os 6 .any (Rows.froundBackSpec.pre6 enc Try.prog Try.f6 Rows.froundBackRow.domain false) (Rows.froundBackSpec.post enc Try.prog Try.f6 false true false false) := by
  refine returnsInHanded_of_change_sized (C := Try.checked) own started (by kernel_rfl) Try.func6
    (ChangeSpec.witness6 (enc := enc) (C := Try.checked) false ⟨#[], #[.int .u64 0, .agg #[.bool false, .slice none 0 0, .slice none 0 0], .agg #[.bool false, .slice none 0 0, .slice none 0 0]], []⟩ 8 (by kernel_rfl) (by kernel_rfl) (by kernel_rfl) (by kernel_rfl)) ?_
  intro W base args ds gs before hval0 hW hcnd hsz0 _
  have hsz : (DataW.weightsEach Try.prog (Try.f6.params.toList ++ Rows.froundBackSpec.plain.varTypes Try.prog) (ds ++ gs)).all (· ≤ reachBytes) = true := hsz0
  have hval : ∀ (j : Nat) t v, Try.f6.params[j]? = some t → args[j]? = some v → Value.okWide Try.prog W .any base t v := hval0
  have hW' := hW
  obtain ⟨p, q, hA0, hV, rfl, hfz, hnd⟩ := hW
  have hA : DataW.TrodAll enc Try.prog W 0 (fun _ => true) true Try.f6.params.toList args.toList ds p := hA0
  rw [Try.params6] at hA hval hsz
  obtain ⟨v0, vs0, d0, ds0, p0, q0, hargs, rfl, rfl, h0, r0⟩ := trodAll_cons hA
  obtain ⟨v1, vs1, d1, ds1, p1, q1, rfl, rfl, rfl, h1, r1⟩ := trodAll_cons r0
  obtain ⟨v2, vs2, d2, ds2, p2, q2, rfl, rfl, rfl, h2, r2⟩ := trodAll_cons r1
  obtain ⟨rfl, rfl, rfl⟩ := trodAll_nil r2
  obtain rfl : args = #[v0, v1, v2] := by cases args; simp_all
  obtain ⟨rfl, rfl⟩ := trodVars_none hV
  have k0 := h0
  have lt0 : ∀ x ∈ p0, x.block < W.heap.size := by obtain ⟨m, hm⟩ := k0; exact DataW.trod_lt m _ _ _ hm
  obtain ⟨n0, rfl, _, _, f0⟩ := open_int Try.underlying22 (hval 0 22 v0 rfl rfl) h0
  have k1 := h1
  have lt1 : ∀ x ∈ p1, x.block < W.heap.size := by obtain ⟨m, hm⟩ := k1; exact DataW.trod_lt m _ _ _ hm
  obtain ⟨b1, a1_1, len1_1, cap1_1, a1_2, len1_2, cap1_2, e1_1, e1_2, g1_1, g1_2, rfl, rfl, t1_1, t1_2⟩ := RS.open_rat Try.underlying30 rfl rfl rfl (by kernel_rfl) (by kernel_rfl) (by kernel_rfl) (by kernel_rfl) Try.underlying4 Try.underlying28 Try.underlying28 Try.underlying22 (by kernel_rfl) (hval 1 30 v1 rfl rfl) h1
  have hsz1 := RS.sized_parts hsz (j := 1) (t := 30) rfl rfl Try.underlying30
  obtain ⟨z1_1, w1_1⟩ : ∃ zs, IsRow .u64 W a1_1 len1_1 cap1_1 zs := by
    obtain ⟨fuel, hf⟩ := t1_1
    rcases open_ints Try.underlying28 Try.underlying22 (by kernel_rfl) hf with ⟨hcs, _⟩ | ⟨x, l, c, zs, hcs, _, hl, hm, hz, _, hcell, hwz⟩
    · simp [Value.cells] at hcs
      obtain ⟨rfl, rfl, rfl⟩ := hcs
      exact ⟨[], .inl ⟨rfl, rfl, rfl, rfl⟩⟩
    · simp [Value.cells] at hcs
      obtain ⟨rfl, rfl, rfl⟩ := hcs
      exact ⟨zs, .inr ⟨_, rfl, hl, hm, by simpa using hz, hcell, hwz⟩⟩
  have y1_1 : len1_1 * 8 ≤ 140737488351232 := Go.Proofs.YtjocbnjpjihpnaaW.PrintWords.sized_ints hsz1 (j := 1) (t := 28) rfl rfl Try.underlying28 Try.underlying22 (by kernel_rfl) (by kernel_rfl) t1_1
  obtain ⟨z1_2, w1_2⟩ : ∃ zs, IsRow .u64 W a1_2 len1_2 cap1_2 zs := by
    obtain ⟨fuel, hf⟩ := t1_2
    rcases open_ints Try.underlying28 Try.underlying22 (by kernel_rfl) hf with ⟨hcs, _⟩ | ⟨x, l, c, zs, hcs, _, hl, hm, hz, _, hcell, hwz⟩
    · simp [Value.cells] at hcs
      obtain ⟨rfl, rfl, rfl⟩ := hcs
      exact ⟨[], .inl ⟨rfl, rfl, rfl, rfl⟩⟩
    · simp [Value.cells] at hcs
      obtain ⟨rfl, rfl, rfl⟩ := hcs
      exact ⟨zs, .inr ⟨_, rfl, hl, hm, by simpa using hz, hcell, hwz⟩⟩
  have y1_2 : len1_2 * 8 ≤ 140737488351232 := Go.Proofs.YtjocbnjpjihpnaaW.PrintWords.sized_ints hsz1 (j := 2) (t := 28) rfl rfl Try.underlying28 Try.underlying22 (by kernel_rfl) (by kernel_rfl) t1_2
  have k2 := h2
  have lt2 : ∀ x ∈ p2, x.block < W.heap.size := by obtain ⟨m, hm⟩ := k2; exact DataW.trod_lt m _ _ _ hm
  obtain ⟨b2, a2_1, len2_1, cap2_1, a2_2, len2_2, cap2_2, e2_1, e2_2, g2_1, g2_2, rfl, rfl, t2_1, t2_2⟩ := RS.open_rat Try.underlying30 rfl rfl rfl (by kernel_rfl) (by kernel_rfl) (by kernel_rfl) (by kernel_rfl) Try.underlying4 Try.underlying28 Try.underlying28 Try.underlying22 (by kernel_rfl) (hval 2 30 v2 rfl rfl) h2
  have hsz2 := RS.sized_parts hsz (j := 2) (t := 30) rfl rfl Try.underlying30
  obtain ⟨z2_1, w2_1⟩ : ∃ zs, IsRow .u64 W a2_1 len2_1 cap2_1 zs := by
    obtain ⟨fuel, hf⟩ := t2_1
    rcases open_ints Try.underlying28 Try.underlying22 (by kernel_rfl) hf with ⟨hcs, _⟩ | ⟨x, l, c, zs, hcs, _, hl, hm, hz, _, hcell, hwz⟩
    · simp [Value.cells] at hcs
      obtain ⟨rfl, rfl, rfl⟩ := hcs
      exact ⟨[], .inl ⟨rfl, rfl, rfl, rfl⟩⟩
    · simp [Value.cells] at hcs
      obtain ⟨rfl, rfl, rfl⟩ := hcs
      exact ⟨zs, .inr ⟨_, rfl, hl, hm, by simpa using hz, hcell, hwz⟩⟩
  have y2_1 : len2_1 * 8 ≤ 140737488351232 := Go.Proofs.YtjocbnjpjihpnaaW.PrintWords.sized_ints hsz2 (j := 1) (t := 28) rfl rfl Try.underlying28 Try.underlying22 (by kernel_rfl) (by kernel_rfl) t2_1
  obtain ⟨z2_2, w2_2⟩ : ∃ zs, IsRow .u64 W a2_2 len2_2 cap2_2 zs := by
    obtain ⟨fuel, hf⟩ := t2_2
    rcases open_ints Try.underlying28 Try.underlying22 (by kernel_rfl) hf with ⟨hcs, _⟩ | ⟨x, l, c, zs, hcs, _, hl, hm, hz, _, hcell, hwz⟩
    · simp [Value.cells] at hcs
      obtain ⟨rfl, rfl, rfl⟩ := hcs
      exact ⟨[], .inl ⟨rfl, rfl, rfl, rfl⟩⟩
    · simp [Value.cells] at hcs
      obtain ⟨rfl, rfl, rfl⟩ := hcs
      exact ⟨zs, .inr ⟨_, rfl, hl, hm, by simpa using hz, hcell, hwz⟩⟩
  have y2_2 : len2_2 * 8 ≤ 140737488351232 := Go.Proofs.YtjocbnjpjihpnaaW.PrintWords.sized_ints hsz2 (j := 2) (t := 28) rfl rfl Try.underlying28 Try.underlying22 (by kernel_rfl) (by kernel_rfl) t2_2
  clear hA0 hval0 hsz0 hsz
  refine (walk Pure.FroundBack n0 b1 a1_1 len1_1 cap1_1 z1_1 a1_2 len1_2 cap1_2 z1_2 b2 a2_1 len2_1 cap2_1 z2_1 a2_2 len2_2 cap2_2 z2_2 W f0 w1_1 y1_1 w1_2 y1_2 w2_1 y2_1 w2_2 y2_2).mono fun e W' ⟨he, bel⟩ => ?_
  subst he
  exact ⟨_, rfl, _, _, _, [], _, [], hW', trodAll_mk1 (shut_bool Try.underlying4 _), (trodAll_cons_mk (Below.trod laidOut (by kernel_rfl) (of_decide_eq_true (by kernel_rfl)) k0 bel lt0) (trodAll_cons_mk (Below.trod laidOut (by kernel_rfl) (of_decide_eq_true (by kernel_rfl)) k1 bel lt1) (trodAll_cons_mk (Below.trod laidOut (by kernel_rfl) (of_decide_eq_true (by kernel_rfl)) k2 bel lt2) trodAll_mk0))), rfl, bel.frame _, fun h => by cases h⟩
theorem closed : joinedFacts Try.prog 6 Try.f6 Rows.froundBackSpec Rows.froundBackRow = true :=
  Io.joined_of Io.mayEnter_t Io.liftsFinal_t (by kernel_rfl) Io.make_t (by kernel_rfl) (by kernel_rfl) (by kernel_rfl) (by kernel_rfl) (by kernel_rfl) (by kernel_rfl) (by kernel_rfl) (by kernel_rfl) (by kernel_rfl) (by kernel_rfl) (by kernel_rfl) (by kernel_rfl) (by kernel_rfl) (by kernel_rfl) (by kernel_rfl) (by kernel_rfl) (by kernel_rfl) (by kernel_rfl) (by kernel_rfl) (by kernel_rfl) (by kernel_rfl) (by kernel_rfl) (by kernel_rfl) (by kernel_rfl) (by kernel_rfl) (by kernel_rfl) (by kernel_rfl) (by kernel_rfl) (by kernel_rfl) (by kernel_rfl)
theorem over : Rows.froundBackRow.holds Try.pinned (OpenSpec.ofChange Rows.froundBackSpec) :=
  OpenClaim.holds_of_wide 6 Try.f6 rfl rfl rfl rfl rfl rfl rfl ⟨rfl, rfl, rfl, rfl, rfl⟩ rfl rfl rfl rfl rfl (by kernel_rfl) Try.func6 closed
    (of_decide_eq_true (by kernel_rfl)) (by unfold Func.isWrapper; first | (rw [if_pos (by decide +kernel)]; kernel_rfl) | (rw [if_neg (by decide +kernel)]; exact ⟨rfl, rfl⟩))
    (fun os started H enc _ => lifted os started H enc)
theorem proved : Rows.FroundBackSaid := over
#print axioms proved
end Go.Proofs.Ytjocbnjpjihpnaa.froundBack
namespace Go.Proofs.Ytjocbnjpjihpnaa
/-- The row, under a short name, for the claim. -/
theorem froundBack_holds : Rows.FroundBackSaid := froundBack.proved
end Go.Proofs.Ytjocbnjpjihpnaa
