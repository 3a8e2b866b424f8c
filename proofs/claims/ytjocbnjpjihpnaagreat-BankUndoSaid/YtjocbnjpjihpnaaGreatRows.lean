/-
  No cell of these rows narrows 'for every input' (looked for: loops, veiled, ifaces, maps, wideKeys, modest, calm, conditions, laid).
  DERIVED. THE GIVEN ROWS OF THIS SEAT. 9 by the template 'for every input the law returns true; each argument reads behind the call as it read before'; 0 by the template 'total and deterministic' (their statements: YtjocbnjpjihpnaaGreatTotals.lean).
  GIVEN WITH THE SEED: the statements are not yours to turn. If you find one false, say at which input.
  Laid BY PROGRAM, IN A SANDBOX (cutbox-rows.mjs): the forced cells as the released guide's own fill.sh prints them over the translation a8aaa067c85999bb… (all of the seat's roots in one cut). By AI agents, Wed Nov 11 2026. No macro, syntax, notation, axiom, sorry.
-/
import Derived.Test.YtjocbnjpjihpnaaGreatChecked
import GoSem.Claim
import GoSem.ClaimJoined
import GoSem.ClaimMapViews
import Derived.JoinedTies
import Derived.KernelRfl
namespace Go.Proofs.YtjocbnjpjihpnaaGreat
/- THE CELL 'sum', in the pinned program and in every row, IS THE sha256 OF THE DUMP (.gsa) THAT YtjocbnjpjihpnaaGreatProg.lean LOADS. Nothing in Lean hashes anything: it is a label: what it is worth is what the hold of that sum in a sandbox is worth. -/
noncomputable def Tryz.pinned : Pinned := { name := "ytjocbnjpjihpnaagreat", sum := "a8aaa067c85999bb475756164a1f9473d5949a697bdb89caaa201e1656c07f7c", checked := Tryz.checked }
namespace Rows
def none {H : Type} : Left H := { results := [], args := [] }

/-- 'gradinelaw17.TangentTells': WHATEVER THE INPUT: true; the input reads as it did. -/
def tangentTellsSpec : ChangeSpec := { name := "tangentTells", fn := fun _ => fun
  | [d] => { results := [.lit (.bool true)], args := [d] }
  | _ => none }
def tangentTellsRow : OpenClaim := { program := "ytjocbnjpjihpnaagreat", sum := "a8aaa067c85999bb475756164a1f9473d5949a697bdb89caaa201e1656c07f7c", func := "gradine/gradinelaw17.TangentTells", spec := "tangentTells", recurses := true, apart := false }
def TangentTellsSaid : Prop := tangentTellsRow.holds Tryz.pinned (OpenSpec.ofChange tangentTellsSpec)

/-- ITS FALSE NEIGHBOUR: 'it returns false'. Refute it at one input. -/
def tangentTellsWrong : ChangeSpec := { name := "tangentTells", fn := fun _ => fun
  | [d] => { results := [.lit (.bool false)], args := [d] }
  | _ => none }
def TangentTellsWrongFalsely : Prop := tangentTellsRow.holds Tryz.pinned (OpenSpec.ofChange tangentTellsWrong)

/-- 'gradinelaw17.TangentBacks': WHATEVER THE INPUT: true; the input reads as it did. -/
def tangentBacksSpec : ChangeSpec := { name := "tangentBacks", fn := fun _ => fun
  | [d1, d2, d3] => { results := [.lit (.bool true)], args := [d1, d2, d3] }
  | _ => none }
def tangentBacksRow : OpenClaim := { program := "ytjocbnjpjihpnaagreat", sum := "a8aaa067c85999bb475756164a1f9473d5949a697bdb89caaa201e1656c07f7c", func := "gradine/gradinelaw17.TangentBacks", spec := "tangentBacks", recurses := true, apart := false }
def TangentBacksSaid : Prop := tangentBacksRow.holds Tryz.pinned (OpenSpec.ofChange tangentBacksSpec)

/-- ITS FALSE NEIGHBOUR: 'it returns false'. Refute it at one input. -/
def tangentBacksWrong : ChangeSpec := { name := "tangentBacks", fn := fun _ => fun
  | [d1, d2, d3] => { results := [.lit (.bool false)], args := [d1, d2, d3] }
  | _ => none }
def TangentBacksWrongFalsely : Prop := tangentBacksRow.holds Tryz.pinned (OpenSpec.ofChange tangentBacksWrong)

/-- 'gradinelaw17.TangentLinear': WHATEVER THE INPUT: true; the input reads as it did. -/
def tangentLinearSpec : ChangeSpec := { name := "tangentLinear", fn := fun _ => fun
  | [d1, d2, d3] => { results := [.lit (.bool true)], args := [d1, d2, d3] }
  | _ => none }
def tangentLinearRow : OpenClaim := { program := "ytjocbnjpjihpnaagreat", sum := "a8aaa067c85999bb475756164a1f9473d5949a697bdb89caaa201e1656c07f7c", func := "gradine/gradinelaw17.TangentLinear", spec := "tangentLinear", recurses := true, apart := false }
def TangentLinearSaid : Prop := tangentLinearRow.holds Tryz.pinned (OpenSpec.ofChange tangentLinearSpec)

/-- ITS FALSE NEIGHBOUR: 'it returns false'. Refute it at one input. -/
def tangentLinearWrong : ChangeSpec := { name := "tangentLinear", fn := fun _ => fun
  | [d1, d2, d3] => { results := [.lit (.bool false)], args := [d1, d2, d3] }
  | _ => none }
def TangentLinearWrongFalsely : Prop := tangentLinearRow.holds Tryz.pinned (OpenSpec.ofChange tangentLinearWrong)

/-- 'gradinelaw16.EvalsExact': WHATEVER THE INPUT: true; the input reads as it did. -/
def evalsExactSpec : ChangeSpec := { name := "evalsExact", fn := fun _ => fun
  | [d1, d2, d3] => { results := [.lit (.bool true)], args := [d1, d2, d3] }
  | _ => none }
def evalsExactRow : OpenClaim := { program := "ytjocbnjpjihpnaagreat", sum := "a8aaa067c85999bb475756164a1f9473d5949a697bdb89caaa201e1656c07f7c", func := "gradine/gradinelaw16.EvalsExact", spec := "evalsExact", recurses := true, apart := false }
def EvalsExactSaid : Prop := evalsExactRow.holds Tryz.pinned (OpenSpec.ofChange evalsExactSpec)

/-- ITS FALSE NEIGHBOUR: 'it returns false'. Refute it at one input. -/
def evalsExactWrong : ChangeSpec := { name := "evalsExact", fn := fun _ => fun
  | [d1, d2, d3] => { results := [.lit (.bool false)], args := [d1, d2, d3] }
  | _ => none }
def EvalsExactWrongFalsely : Prop := evalsExactRow.holds Tryz.pinned (OpenSpec.ofChange evalsExactWrong)

/-- 'gradinelaw16.EvalsFloat': WHATEVER THE INPUT: true; the input reads as it did. -/
def evalsFloatSpec : ChangeSpec := { name := "evalsFloat", fn := fun _ => fun
  | [d1, d2] => { results := [.lit (.bool true)], args := [d1, d2] }
  | _ => none }
def evalsFloatRow : OpenClaim := { program := "ytjocbnjpjihpnaagreat", sum := "a8aaa067c85999bb475756164a1f9473d5949a697bdb89caaa201e1656c07f7c", func := "gradine/gradinelaw16.EvalsFloat", spec := "evalsFloat", recurses := true, apart := false }
def EvalsFloatSaid : Prop := evalsFloatRow.holds Tryz.pinned (OpenSpec.ofChange evalsFloatSpec)

/-- ITS FALSE NEIGHBOUR: 'it returns false'. Refute it at one input. -/
def evalsFloatWrong : ChangeSpec := { name := "evalsFloat", fn := fun _ => fun
  | [d1, d2] => { results := [.lit (.bool false)], args := [d1, d2] }
  | _ => none }
def EvalsFloatWrongFalsely : Prop := evalsFloatRow.holds Tryz.pinned (OpenSpec.ofChange evalsFloatWrong)

/-- 'gradinelaw16.EvalsTrims': WHATEVER THE INPUT: true; the input reads as it did. -/
def evalsTrimsSpec : ChangeSpec := { name := "evalsTrims", fn := fun _ => fun
  | [d1, d2, d3] => { results := [.lit (.bool true)], args := [d1, d2, d3] }
  | _ => none }
def evalsTrimsRow : OpenClaim := { program := "ytjocbnjpjihpnaagreat", sum := "a8aaa067c85999bb475756164a1f9473d5949a697bdb89caaa201e1656c07f7c", func := "gradine/gradinelaw16.EvalsTrims", spec := "evalsTrims", recurses := true, apart := false }
def EvalsTrimsSaid : Prop := evalsTrimsRow.holds Tryz.pinned (OpenSpec.ofChange evalsTrimsSpec)

/-- ITS FALSE NEIGHBOUR: 'it returns false'. Refute it at one input. -/
def evalsTrimsWrong : ChangeSpec := { name := "evalsTrims", fn := fun _ => fun
  | [d1, d2, d3] => { results := [.lit (.bool false)], args := [d1, d2, d3] }
  | _ => none }
def EvalsTrimsWrongFalsely : Prop := evalsTrimsRow.holds Tryz.pinned (OpenSpec.ofChange evalsTrimsWrong)

/-- 'gradinelaw18.BankActs': WHATEVER THE INPUT: true; the input reads as it did. -/
def bankActsSpec : ChangeSpec := { name := "bankActs", fn := fun _ => fun
  | [d1, d2] => { results := [.lit (.bool true)], args := [d1, d2] }
  | _ => none }
def bankActsRow : OpenClaim := { program := "ytjocbnjpjihpnaagreat", sum := "a8aaa067c85999bb475756164a1f9473d5949a697bdb89caaa201e1656c07f7c", func := "gradine/gradinelaw18.BankActs", spec := "bankActs", recurses := true, apart := false }
def BankActsSaid : Prop := bankActsRow.holds Tryz.pinned (OpenSpec.ofChange bankActsSpec)

/-- ITS FALSE NEIGHBOUR: 'it returns false'. Refute it at one input. -/
def bankActsWrong : ChangeSpec := { name := "bankActs", fn := fun _ => fun
  | [d1, d2] => { results := [.lit (.bool false)], args := [d1, d2] }
  | _ => none }
def BankActsWrongFalsely : Prop := bankActsRow.holds Tryz.pinned (OpenSpec.ofChange bankActsWrong)

/-- 'gradinelaw18.BankUndo': WHATEVER THE INPUT: true; the input reads as it did. -/
def bankUndoSpec : ChangeSpec := { name := "bankUndo", fn := fun _ => fun
  | [d1, d2, d3] => { results := [.lit (.bool true)], args := [d1, d2, d3] }
  | _ => none }
def bankUndoRow : OpenClaim := { program := "ytjocbnjpjihpnaagreat", sum := "a8aaa067c85999bb475756164a1f9473d5949a697bdb89caaa201e1656c07f7c", func := "gradine/gradinelaw18.BankUndo", spec := "bankUndo", recurses := true, apart := false }
def BankUndoSaid : Prop := bankUndoRow.holds Tryz.pinned (OpenSpec.ofChange bankUndoSpec)

/-- ITS FALSE NEIGHBOUR: 'it returns false'. Refute it at one input. -/
def bankUndoWrong : ChangeSpec := { name := "bankUndo", fn := fun _ => fun
  | [d1, d2, d3] => { results := [.lit (.bool false)], args := [d1, d2, d3] }
  | _ => none }
def BankUndoWrongFalsely : Prop := bankUndoRow.holds Tryz.pinned (OpenSpec.ofChange bankUndoWrong)

/-- 'gradinelaw18.BankLines': WHATEVER THE INPUT: true; the input reads as it did. -/
def bankLinesSpec : ChangeSpec := { name := "bankLines", fn := fun _ => fun
  | [d1, d2] => { results := [.lit (.bool true)], args := [d1, d2] }
  | _ => none }
def bankLinesRow : OpenClaim := { program := "ytjocbnjpjihpnaagreat", sum := "a8aaa067c85999bb475756164a1f9473d5949a697bdb89caaa201e1656c07f7c", func := "gradine/gradinelaw18.BankLines", spec := "bankLines", recurses := true, apart := false }
def BankLinesSaid : Prop := bankLinesRow.holds Tryz.pinned (OpenSpec.ofChange bankLinesSpec)

/-- ITS FALSE NEIGHBOUR: 'it returns false'. Refute it at one input. -/
def bankLinesWrong : ChangeSpec := { name := "bankLines", fn := fun _ => fun
  | [d1, d2] => { results := [.lit (.bool false)], args := [d1, d2] }
  | _ => none }
def BankLinesWrongFalsely : Prop := bankLinesRow.holds Tryz.pinned (OpenSpec.ofChange bankLinesWrong)

/- THE SECOND FORM. 'bulk': how many values and letters a reading holds, each counted each time it is reached (what is shared counts as often as it is met; a slice's spare places count too). A statement '..UptoSaid' is the law's where the arguments, and the package variables that the reading takes, are together of bulk at most 1048576: NARROWER than '..Said'. Prove '..Said' where nothing that the law and all that it calls make is longer than what came in: it says more and counts as full. Else prove '..UptoSaid'. A law counts once. -/
mutual
def uptoBulk {H : Type} : DataW H → Nat
  | .lit (.string bytes) => bytes.length + 1
  | .lit _ => 1
  | .nil => 1
  | .ptr d => uptoBulk d + 1
  | .slice elems spare => uptoBulkAll elems + uptoBulkAll spare + 1
  | .agg parts => uptoBulkAll parts + 1
  | .iface _ d => uptoBulk d + 1
  | .map entries => uptoBulkEntries entries + 1
  | .held _ => 1
def uptoBulkAll {H : Type} : List (DataW H) → Nat
  | [] => 0
  | d :: r => uptoBulk d + uptoBulkAll r
def uptoBulkEntries {H : Type} : List (Lit × DataW H) → Nat
  | [] => 0
  | x :: r => uptoBulkEntry x + uptoBulkEntries r
def uptoBulkEntry {H : Type} : Lit × DataW H → Nat
  | (.string bytes, d) => bytes.length + uptoBulk d + 1
  | (_, d) => uptoBulk d + 1
 end
def uptoSmall : (H : Type) → List (DataW H) → Bool := fun _ ds => decide (uptoBulkAll ds ≤ 1048576)
def OpenSpec.upto (s : _root_.Go.ChangeSpec) : _root_.Go.OpenSpec := { _root_.Go.OpenSpec.ofChange s with cond := some uptoSmall }

/-- 'gradinelaw17.TangentTells', WHERE WHAT IT READS IS OF BULK AT MOST 1048576: true; the input reads as it did. -/
def tangentTellsUptoRow : OpenClaim := { program := "ytjocbnjpjihpnaagreat", sum := "a8aaa067c85999bb475756164a1f9473d5949a697bdb89caaa201e1656c07f7c", func := "gradine/gradinelaw17.TangentTells", spec := "tangentTells", recurses := true, apart := false, narrowed := true }
def TangentTellsUptoSaid : Prop := tangentTellsUptoRow.holds Tryz.pinned (OpenSpec.upto tangentTellsSpec)

/-- 'gradinelaw17.TangentBacks', WHERE WHAT IT READS IS OF BULK AT MOST 1048576: true; the input reads as it did. -/
def tangentBacksUptoRow : OpenClaim := { program := "ytjocbnjpjihpnaagreat", sum := "a8aaa067c85999bb475756164a1f9473d5949a697bdb89caaa201e1656c07f7c", func := "gradine/gradinelaw17.TangentBacks", spec := "tangentBacks", recurses := true, apart := false, narrowed := true }
def TangentBacksUptoSaid : Prop := tangentBacksUptoRow.holds Tryz.pinned (OpenSpec.upto tangentBacksSpec)

/-- 'gradinelaw17.TangentLinear', WHERE WHAT IT READS IS OF BULK AT MOST 1048576: true; the input reads as it did. -/
def tangentLinearUptoRow : OpenClaim := { program := "ytjocbnjpjihpnaagreat", sum := "a8aaa067c85999bb475756164a1f9473d5949a697bdb89caaa201e1656c07f7c", func := "gradine/gradinelaw17.TangentLinear", spec := "tangentLinear", recurses := true, apart := false, narrowed := true }
def TangentLinearUptoSaid : Prop := tangentLinearUptoRow.holds Tryz.pinned (OpenSpec.upto tangentLinearSpec)

/-- 'gradinelaw16.EvalsExact', WHERE WHAT IT READS IS OF BULK AT MOST 1048576: true; the input reads as it did. -/
def evalsExactUptoRow : OpenClaim := { program := "ytjocbnjpjihpnaagreat", sum := "a8aaa067c85999bb475756164a1f9473d5949a697bdb89caaa201e1656c07f7c", func := "gradine/gradinelaw16.EvalsExact", spec := "evalsExact", recurses := true, apart := false, narrowed := true }
def EvalsExactUptoSaid : Prop := evalsExactUptoRow.holds Tryz.pinned (OpenSpec.upto evalsExactSpec)

/-- 'gradinelaw16.EvalsFloat', WHERE WHAT IT READS IS OF BULK AT MOST 1048576: true; the input reads as it did. -/
def evalsFloatUptoRow : OpenClaim := { program := "ytjocbnjpjihpnaagreat", sum := "a8aaa067c85999bb475756164a1f9473d5949a697bdb89caaa201e1656c07f7c", func := "gradine/gradinelaw16.EvalsFloat", spec := "evalsFloat", recurses := true, apart := false, narrowed := true }
def EvalsFloatUptoSaid : Prop := evalsFloatUptoRow.holds Tryz.pinned (OpenSpec.upto evalsFloatSpec)

/-- 'gradinelaw16.EvalsTrims', WHERE WHAT IT READS IS OF BULK AT MOST 1048576: true; the input reads as it did. -/
def evalsTrimsUptoRow : OpenClaim := { program := "ytjocbnjpjihpnaagreat", sum := "a8aaa067c85999bb475756164a1f9473d5949a697bdb89caaa201e1656c07f7c", func := "gradine/gradinelaw16.EvalsTrims", spec := "evalsTrims", recurses := true, apart := false, narrowed := true }
def EvalsTrimsUptoSaid : Prop := evalsTrimsUptoRow.holds Tryz.pinned (OpenSpec.upto evalsTrimsSpec)

/-- 'gradinelaw18.BankActs', WHERE WHAT IT READS IS OF BULK AT MOST 1048576: true; the input reads as it did. -/
def bankActsUptoRow : OpenClaim := { program := "ytjocbnjpjihpnaagreat", sum := "a8aaa067c85999bb475756164a1f9473d5949a697bdb89caaa201e1656c07f7c", func := "gradine/gradinelaw18.BankActs", spec := "bankActs", recurses := true, apart := false, narrowed := true }
def BankActsUptoSaid : Prop := bankActsUptoRow.holds Tryz.pinned (OpenSpec.upto bankActsSpec)

/-- 'gradinelaw18.BankUndo', WHERE WHAT IT READS IS OF BULK AT MOST 1048576: true; the input reads as it did. -/
def bankUndoUptoRow : OpenClaim := { program := "ytjocbnjpjihpnaagreat", sum := "a8aaa067c85999bb475756164a1f9473d5949a697bdb89caaa201e1656c07f7c", func := "gradine/gradinelaw18.BankUndo", spec := "bankUndo", recurses := true, apart := false, narrowed := true }
def BankUndoUptoSaid : Prop := bankUndoUptoRow.holds Tryz.pinned (OpenSpec.upto bankUndoSpec)

/-- 'gradinelaw18.BankLines', WHERE WHAT IT READS IS OF BULK AT MOST 1048576: true; the input reads as it did. -/
def bankLinesUptoRow : OpenClaim := { program := "ytjocbnjpjihpnaagreat", sum := "a8aaa067c85999bb475756164a1f9473d5949a697bdb89caaa201e1656c07f7c", func := "gradine/gradinelaw18.BankLines", spec := "bankLines", recurses := true, apart := false, narrowed := true }
def BankLinesUptoSaid : Prop := bankLinesUptoRow.holds Tryz.pinned (OpenSpec.upto bankLinesSpec)

end Rows
end Go.Proofs.YtjocbnjpjihpnaaGreat
