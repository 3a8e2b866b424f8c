/-
  No cell of these rows narrows 'for every input' (looked for: loops, veiled, ifaces, maps, wideKeys, modest, calm, conditions, laid).
  DERIVED. THE GIVEN ROWS OF THIS SEAT. 5 by the template 'for every input the law returns true; each argument reads behind the call as it read before'; 0 by the template 'total and deterministic' (their statements: YtjocbnjpjihpnaaTotals.lean).
  GIVEN WITH THE SEED: the statements are not yours to turn. If you find one false, say at which input.
  Laid BY PROGRAM, IN A SANDBOX (cutbox-rows.mjs): the forced cells as the released guide's own fill.sh prints them over the translation 1ecaf358df2e405c… (all of the seat's roots in one cut). By AI agents, Wed Nov 11 2026. No macro, syntax, notation, axiom, sorry.
-/
import Derived.Test.YtjocbnjpjihpnaaChecked
import GoSem.Claim
import GoSem.ClaimJoined
import GoSem.ClaimMapViews
import Derived.JoinedTies
import Derived.KernelRfl
namespace Go.Proofs.Ytjocbnjpjihpnaa
/- THE CELL 'sum', in the pinned program and in every row, IS THE sha256 OF THE DUMP (.gsa) THAT YtjocbnjpjihpnaaProg.lean LOADS. Nothing in Lean hashes anything: it is a label: what it is worth is what the hold of that sum in a sandbox is worth. -/
noncomputable def Try.pinned : Pinned := { name := "ytjocbnjpjihpnaa", sum := "1ecaf358df2e405c0741cf3870f1b68997ed98e664332d0149814cf56d98ac14", checked := Try.checked }
namespace Rows
def none {H : Type} : Left H := { results := [], args := [] }

/-- 'gradinelaw14.KernelTells': WHATEVER THE INPUT: true; the input reads as it did. -/
def kernelTellsSpec : ChangeSpec := { name := "kernelTells", fn := fun _ => fun
  | [d] => { results := [.lit (.bool true)], args := [d] }
  | _ => none }
def kernelTellsRow : OpenClaim := { program := "ytjocbnjpjihpnaa", sum := "1ecaf358df2e405c0741cf3870f1b68997ed98e664332d0149814cf56d98ac14", func := "gradine/gradinelaw14.KernelTells", spec := "kernelTells", apart := false }
def KernelTellsSaid : Prop := kernelTellsRow.holds Try.pinned (OpenSpec.ofChange kernelTellsSpec)

/-- ITS FALSE NEIGHBOUR: 'it returns false'. Refute it at one input. -/
def kernelTellsWrong : ChangeSpec := { name := "kernelTells", fn := fun _ => fun
  | [d] => { results := [.lit (.bool false)], args := [d] }
  | _ => none }
def KernelTellsWrongFalsely : Prop := kernelTellsRow.holds Try.pinned (OpenSpec.ofChange kernelTellsWrong)

/-- 'gradinelaw14.KernelSigns': WHATEVER THE INPUT: true; the input reads as it did. -/
def kernelSignsSpec : ChangeSpec := { name := "kernelSigns", fn := fun _ => fun
  | [d] => { results := [.lit (.bool true)], args := [d] }
  | _ => none }
def kernelSignsRow : OpenClaim := { program := "ytjocbnjpjihpnaa", sum := "1ecaf358df2e405c0741cf3870f1b68997ed98e664332d0149814cf56d98ac14", func := "gradine/gradinelaw14.KernelSigns", spec := "kernelSigns", apart := false }
def KernelSignsSaid : Prop := kernelSignsRow.holds Try.pinned (OpenSpec.ofChange kernelSignsSpec)

/-- ITS FALSE NEIGHBOUR: 'it returns false'. Refute it at one input. -/
def kernelSignsWrong : ChangeSpec := { name := "kernelSigns", fn := fun _ => fun
  | [d] => { results := [.lit (.bool false)], args := [d] }
  | _ => none }
def KernelSignsWrongFalsely : Prop := kernelSignsRow.holds Try.pinned (OpenSpec.ofChange kernelSignsWrong)

/-- 'gradinelaw10.FroundNearest': WHATEVER THE INPUT: true; the input reads as it did. -/
def froundNearestSpec : ChangeSpec := { name := "froundNearest", fn := fun _ => fun
  | [d1, d2] => { results := [.lit (.bool true)], args := [d1, d2] }
  | _ => none }
def froundNearestRow : OpenClaim := { program := "ytjocbnjpjihpnaa", sum := "1ecaf358df2e405c0741cf3870f1b68997ed98e664332d0149814cf56d98ac14", func := "gradine/gradinelaw10.FroundNearest", spec := "froundNearest", apart := false }
def FroundNearestSaid : Prop := froundNearestRow.holds Try.pinned (OpenSpec.ofChange froundNearestSpec)

/-- ITS FALSE NEIGHBOUR: 'it returns false'. Refute it at one input. -/
def froundNearestWrong : ChangeSpec := { name := "froundNearest", fn := fun _ => fun
  | [d1, d2] => { results := [.lit (.bool false)], args := [d1, d2] }
  | _ => none }
def FroundNearestWrongFalsely : Prop := froundNearestRow.holds Try.pinned (OpenSpec.ofChange froundNearestWrong)

/-- 'gradinelaw10.FroundBack': WHATEVER THE INPUT: true; the input reads as it did. -/
def froundBackSpec : ChangeSpec := { name := "froundBack", fn := fun _ => fun
  | [d1, d2, d3] => { results := [.lit (.bool true)], args := [d1, d2, d3] }
  | _ => none }
def froundBackRow : OpenClaim := { program := "ytjocbnjpjihpnaa", sum := "1ecaf358df2e405c0741cf3870f1b68997ed98e664332d0149814cf56d98ac14", func := "gradine/gradinelaw10.FroundBack", spec := "froundBack", apart := false }
def FroundBackSaid : Prop := froundBackRow.holds Try.pinned (OpenSpec.ofChange froundBackSpec)

/-- ITS FALSE NEIGHBOUR: 'it returns false'. Refute it at one input. -/
def froundBackWrong : ChangeSpec := { name := "froundBack", fn := fun _ => fun
  | [d1, d2, d3] => { results := [.lit (.bool false)], args := [d1, d2, d3] }
  | _ => none }
def FroundBackWrongFalsely : Prop := froundBackRow.holds Try.pinned (OpenSpec.ofChange froundBackWrong)

/-- 'gradinelaw17.TangentAdjoint': WHATEVER THE INPUT: true; the input reads as it did. -/
def tangentAdjointSpec : ChangeSpec := { name := "tangentAdjoint", fn := fun _ => fun
  | [d1, d2, d3] => { results := [.lit (.bool true)], args := [d1, d2, d3] }
  | _ => none }
def tangentAdjointRow : OpenClaim := { program := "ytjocbnjpjihpnaa", sum := "1ecaf358df2e405c0741cf3870f1b68997ed98e664332d0149814cf56d98ac14", func := "gradine/gradinelaw17.TangentAdjoint", spec := "tangentAdjoint", recurses := true, apart := false }
def TangentAdjointSaid : Prop := tangentAdjointRow.holds Try.pinned (OpenSpec.ofChange tangentAdjointSpec)

/-- ITS FALSE NEIGHBOUR: 'it returns false'. Refute it at one input. -/
def tangentAdjointWrong : ChangeSpec := { name := "tangentAdjoint", fn := fun _ => fun
  | [d1, d2, d3] => { results := [.lit (.bool false)], args := [d1, d2, d3] }
  | _ => none }
def TangentAdjointWrongFalsely : Prop := tangentAdjointRow.holds Try.pinned (OpenSpec.ofChange tangentAdjointWrong)

/- THE SECOND FORM. 'bulk': how many values and letters a reading holds, each counted each time it is reached (what is shared counts as often as it is met; a slice's spare places count too). A statement '..UptoSaid' is the law's where the arguments, and the package variables that the reading takes, are together of bulk at most 1048576: NARROWER than '..Said'. Prove '..Said' where nothing that the law and all that it calls make is longer than what came in: it says more and counts as full. Else prove '..UptoSaid'. A law counts once. -/
mutual
def uptoBulk {H : Type} : DataW H → Nat
  | .lit (.string bytes) => bytes.length + 1
  | .lit _ => 1
  | .nil => 1
  | .ptr d => uptoBulk d + 1
  | .slice elems spare => uptoBulkAll elems + uptoBulkAll spare + 1
  | .agg parts => uptoBulkAll parts + 1
  | .iface _ d => uptoBulk d + 1
  | .map entries => uptoBulkEntries entries + 1
  | .held _ => 1
def uptoBulkAll {H : Type} : List (DataW H) → Nat
  | [] => 0
  | d :: r => uptoBulk d + uptoBulkAll r
def uptoBulkEntries {H : Type} : List (Lit × DataW H) → Nat
  | [] => 0
  | x :: r => uptoBulkEntry x + uptoBulkEntries r
def uptoBulkEntry {H : Type} : Lit × DataW H → Nat
  | (.string bytes, d) => bytes.length + uptoBulk d + 1
  | (_, d) => uptoBulk d + 1
 end
def uptoSmall : (H : Type) → List (DataW H) → Bool := fun _ ds => decide (uptoBulkAll ds ≤ 1048576)
def OpenSpec.upto (s : _root_.Go.ChangeSpec) : _root_.Go.OpenSpec := { _root_.Go.OpenSpec.ofChange s with cond := some uptoSmall }

/-- 'gradinelaw14.KernelTells', WHERE WHAT IT READS IS OF BULK AT MOST 1048576: true; the input reads as it did. -/
def kernelTellsUptoRow : OpenClaim := { program := "ytjocbnjpjihpnaa", sum := "1ecaf358df2e405c0741cf3870f1b68997ed98e664332d0149814cf56d98ac14", func := "gradine/gradinelaw14.KernelTells", spec := "kernelTells", apart := false, narrowed := true }
def KernelTellsUptoSaid : Prop := kernelTellsUptoRow.holds Try.pinned (OpenSpec.upto kernelTellsSpec)

/-- 'gradinelaw14.KernelSigns', WHERE WHAT IT READS IS OF BULK AT MOST 1048576: true; the input reads as it did. -/
def kernelSignsUptoRow : OpenClaim := { program := "ytjocbnjpjihpnaa", sum := "1ecaf358df2e405c0741cf3870f1b68997ed98e664332d0149814cf56d98ac14", func := "gradine/gradinelaw14.KernelSigns", spec := "kernelSigns", apart := false, narrowed := true }
def KernelSignsUptoSaid : Prop := kernelSignsUptoRow.holds Try.pinned (OpenSpec.upto kernelSignsSpec)

/-- 'gradinelaw10.FroundNearest', WHERE WHAT IT READS IS OF BULK AT MOST 1048576: true; the input reads as it did. -/
def froundNearestUptoRow : OpenClaim := { program := "ytjocbnjpjihpnaa", sum := "1ecaf358df2e405c0741cf3870f1b68997ed98e664332d0149814cf56d98ac14", func := "gradine/gradinelaw10.FroundNearest", spec := "froundNearest", apart := false, narrowed := true }
def FroundNearestUptoSaid : Prop := froundNearestUptoRow.holds Try.pinned (OpenSpec.upto froundNearestSpec)

/-- 'gradinelaw10.FroundBack', WHERE WHAT IT READS IS OF BULK AT MOST 1048576: true; the input reads as it did. -/
def froundBackUptoRow : OpenClaim := { program := "ytjocbnjpjihpnaa", sum := "1ecaf358df2e405c0741cf3870f1b68997ed98e664332d0149814cf56d98ac14", func := "gradine/gradinelaw10.FroundBack", spec := "froundBack", apart := false, narrowed := true }
def FroundBackUptoSaid : Prop := froundBackUptoRow.holds Try.pinned (OpenSpec.upto froundBackSpec)

/-- 'gradinelaw17.TangentAdjoint', WHERE WHAT IT READS IS OF BULK AT MOST 1048576: true; the input reads as it did. -/
def tangentAdjointUptoRow : OpenClaim := { program := "ytjocbnjpjihpnaa", sum := "1ecaf358df2e405c0741cf3870f1b68997ed98e664332d0149814cf56d98ac14", func := "gradine/gradinelaw17.TangentAdjoint", spec := "tangentAdjoint", recurses := true, apart := false, narrowed := true }
def TangentAdjointUptoSaid : Prop := tangentAdjointUptoRow.holds Try.pinned (OpenSpec.upto tangentAdjointSpec)

end Rows
end Go.Proofs.Ytjocbnjpjihpnaa
