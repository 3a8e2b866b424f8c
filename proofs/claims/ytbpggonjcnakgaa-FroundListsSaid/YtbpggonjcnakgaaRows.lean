/-
  No cell of these rows narrows 'for every input' (looked for: loops, veiled, ifaces, maps, wideKeys, modest, calm, conditions, laid).
  DERIVED. THE GIVEN ROWS OF THIS SEAT. 21 by the template 'for every input the law returns true; each argument reads behind the call as it read before'; 0 by the template 'total and deterministic' (their statements: YtbpggonjcnakgaaTotals.lean).
  GIVEN WITH THE SEED: the statements are not yours to turn. If you find one false, say at which input.
  Laid BY PROGRAM, IN A SANDBOX (cutbox-rows.mjs): the forced cells as the released guide's own fill.sh prints them over the translation 7eb2b9639f85f24f… (all of the seat's roots in one cut). By AI agents, Wed Nov 11 2026. No macro, syntax, notation, axiom, sorry.
-/
import Derived.Test.YtbpggonjcnakgaaChecked
import GoSem.Claim
import GoSem.ClaimJoined
import GoSem.ClaimMapViews
import Derived.JoinedTies
import Derived.KernelRfl
namespace Go.Proofs.Ytbpggonjcnakgaa
/- THE CELL 'sum', in the pinned program and in every row, IS THE sha256 OF THE DUMP (.gsa) THAT YtbpggonjcnakgaaProg.lean LOADS. Nothing in Lean hashes anything: it is a label: what it is worth is what the hold of that sum in a sandbox is worth. -/
noncomputable def Try.pinned : Pinned := { name := "ytbpggonjcnakgaa", sum := "7eb2b9639f85f24fd79309531b663e30f960258d159600e756a8acad6933825e", checked := Try.checked }
namespace Rows
def none {H : Type} : Left H := { results := [], args := [] }

/-- 'gradinelaw09.FbitsBack': WHATEVER THE INPUT: true; the input reads as it did. -/
def fbitsBackSpec : ChangeSpec := { name := "fbitsBack", fn := fun _ => fun
  | [d1, d2] => { results := [.lit (.bool true)], args := [d1, d2] }
  | _ => none }
def fbitsBackRow : OpenClaim := { program := "ytbpggonjcnakgaa", sum := "7eb2b9639f85f24fd79309531b663e30f960258d159600e756a8acad6933825e", func := "gradine/gradinelaw09.FbitsBack", spec := "fbitsBack", apart := false }
def FbitsBackSaid : Prop := fbitsBackRow.holds Try.pinned (OpenSpec.ofChange fbitsBackSpec)

/-- ITS FALSE NEIGHBOUR: 'it returns false'. Refute it at one input. -/
def fbitsBackWrong : ChangeSpec := { name := "fbitsBack", fn := fun _ => fun
  | [d1, d2] => { results := [.lit (.bool false)], args := [d1, d2] }
  | _ => none }
def FbitsBackWrongFalsely : Prop := fbitsBackRow.holds Try.pinned (OpenSpec.ofChange fbitsBackWrong)

/-- 'gradinelaw09.FbitsMakes': WHATEVER THE INPUT: true; the input reads as it did. -/
def fbitsMakesSpec : ChangeSpec := { name := "fbitsMakes", fn := fun _ => fun
  | [d1, d2, d3] => { results := [.lit (.bool true)], args := [d1, d2, d3] }
  | _ => none }
def fbitsMakesRow : OpenClaim := { program := "ytbpggonjcnakgaa", sum := "7eb2b9639f85f24fd79309531b663e30f960258d159600e756a8acad6933825e", func := "gradine/gradinelaw09.FbitsMakes", spec := "fbitsMakes", apart := false }
def FbitsMakesSaid : Prop := fbitsMakesRow.holds Try.pinned (OpenSpec.ofChange fbitsMakesSpec)

/-- ITS FALSE NEIGHBOUR: 'it returns false'. Refute it at one input. -/
def fbitsMakesWrong : ChangeSpec := { name := "fbitsMakes", fn := fun _ => fun
  | [d1, d2, d3] => { results := [.lit (.bool false)], args := [d1, d2, d3] }
  | _ => none }
def FbitsMakesWrongFalsely : Prop := fbitsMakesRow.holds Try.pinned (OpenSpec.ofChange fbitsMakesWrong)

/-- 'gradinelaw10.FroundWords': WHATEVER THE INPUT: true; the input reads as it did. -/
def froundWordsSpec : ChangeSpec := { name := "froundWords", fn := fun _ => fun
  | [d1, d2, d3] => { results := [.lit (.bool true)], args := [d1, d2, d3] }
  | _ => none }
def froundWordsRow : OpenClaim := { program := "ytbpggonjcnakgaa", sum := "7eb2b9639f85f24fd79309531b663e30f960258d159600e756a8acad6933825e", func := "gradine/gradinelaw10.FroundWords", spec := "froundWords", apart := false }
def FroundWordsSaid : Prop := froundWordsRow.holds Try.pinned (OpenSpec.ofChange froundWordsSpec)

/-- ITS FALSE NEIGHBOUR: 'it returns false'. Refute it at one input. -/
def froundWordsWrong : ChangeSpec := { name := "froundWords", fn := fun _ => fun
  | [d1, d2, d3] => { results := [.lit (.bool false)], args := [d1, d2, d3] }
  | _ => none }
def FroundWordsWrongFalsely : Prop := froundWordsRow.holds Try.pinned (OpenSpec.ofChange froundWordsWrong)

/-- 'gradinelaw09.FbitsTells': WHATEVER THE INPUT: true; the input reads as it did. -/
def fbitsTellsSpec : ChangeSpec := { name := "fbitsTells", fn := fun _ => fun
  | [d] => { results := [.lit (.bool true)], args := [d] }
  | _ => none }
def fbitsTellsRow : OpenClaim := { program := "ytbpggonjcnakgaa", sum := "7eb2b9639f85f24fd79309531b663e30f960258d159600e756a8acad6933825e", func := "gradine/gradinelaw09.FbitsTells", spec := "fbitsTells", apart := false }
def FbitsTellsSaid : Prop := fbitsTellsRow.holds Try.pinned (OpenSpec.ofChange fbitsTellsSpec)

/-- ITS FALSE NEIGHBOUR: 'it returns false'. Refute it at one input. -/
def fbitsTellsWrong : ChangeSpec := { name := "fbitsTells", fn := fun _ => fun
  | [d] => { results := [.lit (.bool false)], args := [d] }
  | _ => none }
def FbitsTellsWrongFalsely : Prop := fbitsTellsRow.holds Try.pinned (OpenSpec.ofChange fbitsTellsWrong)

/-- 'gradinelaw13.FcmpTells': WHATEVER THE INPUT: true; the input reads as it did. -/
def fcmpTellsSpec : ChangeSpec := { name := "fcmpTells", fn := fun _ => fun
  | [d1, d2] => { results := [.lit (.bool true)], args := [d1, d2] }
  | _ => none }
def fcmpTellsRow : OpenClaim := { program := "ytbpggonjcnakgaa", sum := "7eb2b9639f85f24fd79309531b663e30f960258d159600e756a8acad6933825e", func := "gradine/gradinelaw13.FcmpTells", spec := "fcmpTells", apart := false }
def FcmpTellsSaid : Prop := fcmpTellsRow.holds Try.pinned (OpenSpec.ofChange fcmpTellsSpec)

/-- ITS FALSE NEIGHBOUR: 'it returns false'. Refute it at one input. -/
def fcmpTellsWrong : ChangeSpec := { name := "fcmpTells", fn := fun _ => fun
  | [d1, d2] => { results := [.lit (.bool false)], args := [d1, d2] }
  | _ => none }
def FcmpTellsWrongFalsely : Prop := fcmpTellsRow.holds Try.pinned (OpenSpec.ofChange fcmpTellsWrong)

/-- 'gradinelaw13.FcmpNear': WHATEVER THE INPUT: true; the input reads as it did. -/
def fcmpNearSpec : ChangeSpec := { name := "fcmpNear", fn := fun _ => fun
  | [d] => { results := [.lit (.bool true)], args := [d] }
  | _ => none }
def fcmpNearRow : OpenClaim := { program := "ytbpggonjcnakgaa", sum := "7eb2b9639f85f24fd79309531b663e30f960258d159600e756a8acad6933825e", func := "gradine/gradinelaw13.FcmpNear", spec := "fcmpNear", apart := false }
def FcmpNearSaid : Prop := fcmpNearRow.holds Try.pinned (OpenSpec.ofChange fcmpNearSpec)

/-- ITS FALSE NEIGHBOUR: 'it returns false'. Refute it at one input. -/
def fcmpNearWrong : ChangeSpec := { name := "fcmpNear", fn := fun _ => fun
  | [d] => { results := [.lit (.bool false)], args := [d] }
  | _ => none }
def FcmpNearWrongFalsely : Prop := fcmpNearRow.holds Try.pinned (OpenSpec.ofChange fcmpNearWrong)

/-- 'gradinelaw13.FcmpScales': WHATEVER THE INPUT: true; the input reads as it did. -/
def fcmpScalesSpec : ChangeSpec := { name := "fcmpScales", fn := fun _ => fun
  | [d1, d2] => { results := [.lit (.bool true)], args := [d1, d2] }
  | _ => none }
def fcmpScalesRow : OpenClaim := { program := "ytbpggonjcnakgaa", sum := "7eb2b9639f85f24fd79309531b663e30f960258d159600e756a8acad6933825e", func := "gradine/gradinelaw13.FcmpScales", spec := "fcmpScales", apart := false }
def FcmpScalesSaid : Prop := fcmpScalesRow.holds Try.pinned (OpenSpec.ofChange fcmpScalesSpec)

/-- ITS FALSE NEIGHBOUR: 'it returns false'. Refute it at one input. -/
def fcmpScalesWrong : ChangeSpec := { name := "fcmpScales", fn := fun _ => fun
  | [d1, d2] => { results := [.lit (.bool false)], args := [d1, d2] }
  | _ => none }
def FcmpScalesWrongFalsely : Prop := fcmpScalesRow.holds Try.pinned (OpenSpec.ofChange fcmpScalesWrong)

/-- 'gradinelaw13.FcmpOrder': WHATEVER THE INPUT: true; the input reads as it did. -/
def fcmpOrderSpec : ChangeSpec := { name := "fcmpOrder", fn := fun _ => fun
  | [d1, d2, d3] => { results := [.lit (.bool true)], args := [d1, d2, d3] }
  | _ => none }
def fcmpOrderRow : OpenClaim := { program := "ytbpggonjcnakgaa", sum := "7eb2b9639f85f24fd79309531b663e30f960258d159600e756a8acad6933825e", func := "gradine/gradinelaw13.FcmpOrder", spec := "fcmpOrder", apart := false }
def FcmpOrderSaid : Prop := fcmpOrderRow.holds Try.pinned (OpenSpec.ofChange fcmpOrderSpec)

/-- ITS FALSE NEIGHBOUR: 'it returns false'. Refute it at one input. -/
def fcmpOrderWrong : ChangeSpec := { name := "fcmpOrder", fn := fun _ => fun
  | [d1, d2, d3] => { results := [.lit (.bool false)], args := [d1, d2, d3] }
  | _ => none }
def FcmpOrderWrongFalsely : Prop := fcmpOrderRow.holds Try.pinned (OpenSpec.ofChange fcmpOrderWrong)

/-- 'gradinelaw11.FsumTells': WHATEVER THE INPUT: true; the input reads as it did. -/
def fsumTellsSpec : ChangeSpec := { name := "fsumTells", fn := fun _ => fun
  | [d1, d2] => { results := [.lit (.bool true)], args := [d1, d2] }
  | _ => none }
def fsumTellsRow : OpenClaim := { program := "ytbpggonjcnakgaa", sum := "7eb2b9639f85f24fd79309531b663e30f960258d159600e756a8acad6933825e", func := "gradine/gradinelaw11.FsumTells", spec := "fsumTells", apart := false }
def FsumTellsSaid : Prop := fsumTellsRow.holds Try.pinned (OpenSpec.ofChange fsumTellsSpec)

/-- ITS FALSE NEIGHBOUR: 'it returns false'. Refute it at one input. -/
def fsumTellsWrong : ChangeSpec := { name := "fsumTells", fn := fun _ => fun
  | [d1, d2] => { results := [.lit (.bool false)], args := [d1, d2] }
  | _ => none }
def FsumTellsWrongFalsely : Prop := fsumTellsRow.holds Try.pinned (OpenSpec.ofChange fsumTellsWrong)

/-- 'gradinelaw11.FsumTurns': WHATEVER THE INPUT: true; the input reads as it did. -/
def fsumTurnsSpec : ChangeSpec := { name := "fsumTurns", fn := fun _ => fun
  | [d1, d2] => { results := [.lit (.bool true)], args := [d1, d2] }
  | _ => none }
def fsumTurnsRow : OpenClaim := { program := "ytbpggonjcnakgaa", sum := "7eb2b9639f85f24fd79309531b663e30f960258d159600e756a8acad6933825e", func := "gradine/gradinelaw11.FsumTurns", spec := "fsumTurns", apart := false }
def FsumTurnsSaid : Prop := fsumTurnsRow.holds Try.pinned (OpenSpec.ofChange fsumTurnsSpec)

/-- ITS FALSE NEIGHBOUR: 'it returns false'. Refute it at one input. -/
def fsumTurnsWrong : ChangeSpec := { name := "fsumTurns", fn := fun _ => fun
  | [d1, d2] => { results := [.lit (.bool false)], args := [d1, d2] }
  | _ => none }
def FsumTurnsWrongFalsely : Prop := fsumTurnsRow.holds Try.pinned (OpenSpec.ofChange fsumTurnsWrong)

/-- 'gradinelaw11.FsumExact': WHATEVER THE INPUT: true; the input reads as it did. -/
def fsumExactSpec : ChangeSpec := { name := "fsumExact", fn := fun _ => fun
  | [d1, d2] => { results := [.lit (.bool true)], args := [d1, d2] }
  | _ => none }
def fsumExactRow : OpenClaim := { program := "ytbpggonjcnakgaa", sum := "7eb2b9639f85f24fd79309531b663e30f960258d159600e756a8acad6933825e", func := "gradine/gradinelaw11.FsumExact", spec := "fsumExact", apart := false }
def FsumExactSaid : Prop := fsumExactRow.holds Try.pinned (OpenSpec.ofChange fsumExactSpec)

/-- ITS FALSE NEIGHBOUR: 'it returns false'. Refute it at one input. -/
def fsumExactWrong : ChangeSpec := { name := "fsumExact", fn := fun _ => fun
  | [d1, d2] => { results := [.lit (.bool false)], args := [d1, d2] }
  | _ => none }
def FsumExactWrongFalsely : Prop := fsumExactRow.holds Try.pinned (OpenSpec.ofChange fsumExactWrong)

/-- 'gradinelaw10.FroundLists': WHATEVER THE INPUT: true; the input reads as it did. -/
def froundListsSpec : ChangeSpec := { name := "froundLists", fn := fun _ => fun
  | [d1, d2] => { results := [.lit (.bool true)], args := [d1, d2] }
  | _ => none }
def froundListsRow : OpenClaim := { program := "ytbpggonjcnakgaa", sum := "7eb2b9639f85f24fd79309531b663e30f960258d159600e756a8acad6933825e", func := "gradine/gradinelaw10.FroundLists", spec := "froundLists", apart := false }
def FroundListsSaid : Prop := froundListsRow.holds Try.pinned (OpenSpec.ofChange froundListsSpec)

/-- ITS FALSE NEIGHBOUR: 'it returns false'. Refute it at one input. -/
def froundListsWrong : ChangeSpec := { name := "froundLists", fn := fun _ => fun
  | [d1, d2] => { results := [.lit (.bool false)], args := [d1, d2] }
  | _ => none }
def FroundListsWrongFalsely : Prop := froundListsRow.holds Try.pinned (OpenSpec.ofChange froundListsWrong)

/-- 'gradinelaw12.FprodTells': WHATEVER THE INPUT: true; the input reads as it did. -/
def fprodTellsSpec : ChangeSpec := { name := "fprodTells", fn := fun _ => fun
  | [d1, d2] => { results := [.lit (.bool true)], args := [d1, d2] }
  | _ => none }
def fprodTellsRow : OpenClaim := { program := "ytbpggonjcnakgaa", sum := "7eb2b9639f85f24fd79309531b663e30f960258d159600e756a8acad6933825e", func := "gradine/gradinelaw12.FprodTells", spec := "fprodTells", apart := false }
def FprodTellsSaid : Prop := fprodTellsRow.holds Try.pinned (OpenSpec.ofChange fprodTellsSpec)

/-- ITS FALSE NEIGHBOUR: 'it returns false'. Refute it at one input. -/
def fprodTellsWrong : ChangeSpec := { name := "fprodTells", fn := fun _ => fun
  | [d1, d2] => { results := [.lit (.bool false)], args := [d1, d2] }
  | _ => none }
def FprodTellsWrongFalsely : Prop := fprodTellsRow.holds Try.pinned (OpenSpec.ofChange fprodTellsWrong)

/-- 'gradinelaw12.FprodRoots': WHATEVER THE INPUT: true; the input reads as it did. -/
def fprodRootsSpec : ChangeSpec := { name := "fprodRoots", fn := fun _ => fun
  | [d] => { results := [.lit (.bool true)], args := [d] }
  | _ => none }
def fprodRootsRow : OpenClaim := { program := "ytbpggonjcnakgaa", sum := "7eb2b9639f85f24fd79309531b663e30f960258d159600e756a8acad6933825e", func := "gradine/gradinelaw12.FprodRoots", spec := "fprodRoots", apart := false }
def FprodRootsSaid : Prop := fprodRootsRow.holds Try.pinned (OpenSpec.ofChange fprodRootsSpec)

/-- ITS FALSE NEIGHBOUR: 'it returns false'. Refute it at one input. -/
def fprodRootsWrong : ChangeSpec := { name := "fprodRoots", fn := fun _ => fun
  | [d] => { results := [.lit (.bool false)], args := [d] }
  | _ => none }
def FprodRootsWrongFalsely : Prop := fprodRootsRow.holds Try.pinned (OpenSpec.ofChange fprodRootsWrong)

/-- 'gradinelaw12.FprodTurns': WHATEVER THE INPUT: true; the input reads as it did. -/
def fprodTurnsSpec : ChangeSpec := { name := "fprodTurns", fn := fun _ => fun
  | [d1, d2] => { results := [.lit (.bool true)], args := [d1, d2] }
  | _ => none }
def fprodTurnsRow : OpenClaim := { program := "ytbpggonjcnakgaa", sum := "7eb2b9639f85f24fd79309531b663e30f960258d159600e756a8acad6933825e", func := "gradine/gradinelaw12.FprodTurns", spec := "fprodTurns", apart := false }
def FprodTurnsSaid : Prop := fprodTurnsRow.holds Try.pinned (OpenSpec.ofChange fprodTurnsSpec)

/-- ITS FALSE NEIGHBOUR: 'it returns false'. Refute it at one input. -/
def fprodTurnsWrong : ChangeSpec := { name := "fprodTurns", fn := fun _ => fun
  | [d1, d2] => { results := [.lit (.bool false)], args := [d1, d2] }
  | _ => none }
def FprodTurnsWrongFalsely : Prop := fprodTurnsRow.holds Try.pinned (OpenSpec.ofChange fprodTurnsWrong)

/-- 'gradinelaw12.FprodSquares': WHATEVER THE INPUT: true; the input reads as it did. -/
def fprodSquaresSpec : ChangeSpec := { name := "fprodSquares", fn := fun _ => fun
  | [d] => { results := [.lit (.bool true)], args := [d] }
  | _ => none }
def fprodSquaresRow : OpenClaim := { program := "ytbpggonjcnakgaa", sum := "7eb2b9639f85f24fd79309531b663e30f960258d159600e756a8acad6933825e", func := "gradine/gradinelaw12.FprodSquares", spec := "fprodSquares", apart := false }
def FprodSquaresSaid : Prop := fprodSquaresRow.holds Try.pinned (OpenSpec.ofChange fprodSquaresSpec)

/-- ITS FALSE NEIGHBOUR: 'it returns false'. Refute it at one input. -/
def fprodSquaresWrong : ChangeSpec := { name := "fprodSquares", fn := fun _ => fun
  | [d] => { results := [.lit (.bool false)], args := [d] }
  | _ => none }
def FprodSquaresWrongFalsely : Prop := fprodSquaresRow.holds Try.pinned (OpenSpec.ofChange fprodSquaresWrong)

/-- 'gradinelaw14.KernelTells': WHATEVER THE INPUT: true; the input reads as it did. -/
def kernelTellsSpec : ChangeSpec := { name := "kernelTells", fn := fun _ => fun
  | [d] => { results := [.lit (.bool true)], args := [d] }
  | _ => none }
def kernelTellsRow : OpenClaim := { program := "ytbpggonjcnakgaa", sum := "7eb2b9639f85f24fd79309531b663e30f960258d159600e756a8acad6933825e", func := "gradine/gradinelaw14.KernelTells", spec := "kernelTells", apart := false }
def KernelTellsSaid : Prop := kernelTellsRow.holds Try.pinned (OpenSpec.ofChange kernelTellsSpec)

/-- ITS FALSE NEIGHBOUR: 'it returns false'. Refute it at one input. -/
def kernelTellsWrong : ChangeSpec := { name := "kernelTells", fn := fun _ => fun
  | [d] => { results := [.lit (.bool false)], args := [d] }
  | _ => none }
def KernelTellsWrongFalsely : Prop := kernelTellsRow.holds Try.pinned (OpenSpec.ofChange kernelTellsWrong)

/-- 'gradinelaw14.KernelSigns': WHATEVER THE INPUT: true; the input reads as it did. -/
def kernelSignsSpec : ChangeSpec := { name := "kernelSigns", fn := fun _ => fun
  | [d] => { results := [.lit (.bool true)], args := [d] }
  | _ => none }
def kernelSignsRow : OpenClaim := { program := "ytbpggonjcnakgaa", sum := "7eb2b9639f85f24fd79309531b663e30f960258d159600e756a8acad6933825e", func := "gradine/gradinelaw14.KernelSigns", spec := "kernelSigns", apart := false }
def KernelSignsSaid : Prop := kernelSignsRow.holds Try.pinned (OpenSpec.ofChange kernelSignsSpec)

/-- ITS FALSE NEIGHBOUR: 'it returns false'. Refute it at one input. -/
def kernelSignsWrong : ChangeSpec := { name := "kernelSigns", fn := fun _ => fun
  | [d] => { results := [.lit (.bool false)], args := [d] }
  | _ => none }
def KernelSignsWrongFalsely : Prop := kernelSignsRow.holds Try.pinned (OpenSpec.ofChange kernelSignsWrong)

/-- 'gradinelaw10.FroundNearest': WHATEVER THE INPUT: true; the input reads as it did. -/
def froundNearestSpec : ChangeSpec := { name := "froundNearest", fn := fun _ => fun
  | [d1, d2] => { results := [.lit (.bool true)], args := [d1, d2] }
  | _ => none }
def froundNearestRow : OpenClaim := { program := "ytbpggonjcnakgaa", sum := "7eb2b9639f85f24fd79309531b663e30f960258d159600e756a8acad6933825e", func := "gradine/gradinelaw10.FroundNearest", spec := "froundNearest", apart := false }
def FroundNearestSaid : Prop := froundNearestRow.holds Try.pinned (OpenSpec.ofChange froundNearestSpec)

/-- ITS FALSE NEIGHBOUR: 'it returns false'. Refute it at one input. -/
def froundNearestWrong : ChangeSpec := { name := "froundNearest", fn := fun _ => fun
  | [d1, d2] => { results := [.lit (.bool false)], args := [d1, d2] }
  | _ => none }
def FroundNearestWrongFalsely : Prop := froundNearestRow.holds Try.pinned (OpenSpec.ofChange froundNearestWrong)

/-- 'gradinelaw10.FroundRats': WHATEVER THE INPUT: true; the input reads as it did. -/
def froundRatsSpec : ChangeSpec := { name := "froundRats", fn := fun _ => fun
  | [d1, d2] => { results := [.lit (.bool true)], args := [d1, d2] }
  | _ => none }
def froundRatsRow : OpenClaim := { program := "ytbpggonjcnakgaa", sum := "7eb2b9639f85f24fd79309531b663e30f960258d159600e756a8acad6933825e", func := "gradine/gradinelaw10.FroundRats", spec := "froundRats", apart := false }
def FroundRatsSaid : Prop := froundRatsRow.holds Try.pinned (OpenSpec.ofChange froundRatsSpec)

/-- ITS FALSE NEIGHBOUR: 'it returns false'. Refute it at one input. -/
def froundRatsWrong : ChangeSpec := { name := "froundRats", fn := fun _ => fun
  | [d1, d2] => { results := [.lit (.bool false)], args := [d1, d2] }
  | _ => none }
def FroundRatsWrongFalsely : Prop := froundRatsRow.holds Try.pinned (OpenSpec.ofChange froundRatsWrong)

/-- 'gradinelaw10.FroundBack': WHATEVER THE INPUT: true; the input reads as it did. -/
def froundBackSpec : ChangeSpec := { name := "froundBack", fn := fun _ => fun
  | [d1, d2, d3] => { results := [.lit (.bool true)], args := [d1, d2, d3] }
  | _ => none }
def froundBackRow : OpenClaim := { program := "ytbpggonjcnakgaa", sum := "7eb2b9639f85f24fd79309531b663e30f960258d159600e756a8acad6933825e", func := "gradine/gradinelaw10.FroundBack", spec := "froundBack", apart := false }
def FroundBackSaid : Prop := froundBackRow.holds Try.pinned (OpenSpec.ofChange froundBackSpec)

/-- ITS FALSE NEIGHBOUR: 'it returns false'. Refute it at one input. -/
def froundBackWrong : ChangeSpec := { name := "froundBack", fn := fun _ => fun
  | [d1, d2, d3] => { results := [.lit (.bool false)], args := [d1, d2, d3] }
  | _ => none }
def FroundBackWrongFalsely : Prop := froundBackRow.holds Try.pinned (OpenSpec.ofChange froundBackWrong)

/- THE SECOND FORM. 'bulk': how many values and letters a reading holds, each counted each time it is reached (what is shared counts as often as it is met; a slice's spare places count too). A statement '..UptoSaid' is the law's where the arguments, and the package variables that the reading takes, are together of bulk at most 1048576: NARROWER than '..Said'. Prove '..Said' where nothing that the law and all that it calls make is longer than what came in: it says more and counts as full. Else prove '..UptoSaid'. A law counts once. -/
mutual
def uptoBulk {H : Type} : DataW H → Nat
  | .lit (.string bytes) => bytes.length + 1
  | .lit _ => 1
  | .nil => 1
  | .ptr d => uptoBulk d + 1
  | .slice elems spare => uptoBulkAll elems + uptoBulkAll spare + 1
  | .agg parts => uptoBulkAll parts + 1
  | .iface _ d => uptoBulk d + 1
  | .map entries => uptoBulkEntries entries + 1
  | .held _ => 1
def uptoBulkAll {H : Type} : List (DataW H) → Nat
  | [] => 0
  | d :: r => uptoBulk d + uptoBulkAll r
def uptoBulkEntries {H : Type} : List (Lit × DataW H) → Nat
  | [] => 0
  | x :: r => uptoBulkEntry x + uptoBulkEntries r
def uptoBulkEntry {H : Type} : Lit × DataW H → Nat
  | (.string bytes, d) => bytes.length + uptoBulk d + 1
  | (_, d) => uptoBulk d + 1
 end
def uptoSmall : (H : Type) → List (DataW H) → Bool := fun _ ds => decide (uptoBulkAll ds ≤ 1048576)
def OpenSpec.upto (s : _root_.Go.ChangeSpec) : _root_.Go.OpenSpec := { _root_.Go.OpenSpec.ofChange s with cond := some uptoSmall }

/-- 'gradinelaw09.FbitsBack', WHERE WHAT IT READS IS OF BULK AT MOST 1048576: true; the input reads as it did. -/
def fbitsBackUptoRow : OpenClaim := { program := "ytbpggonjcnakgaa", sum := "7eb2b9639f85f24fd79309531b663e30f960258d159600e756a8acad6933825e", func := "gradine/gradinelaw09.FbitsBack", spec := "fbitsBack", apart := false, narrowed := true }
def FbitsBackUptoSaid : Prop := fbitsBackUptoRow.holds Try.pinned (OpenSpec.upto fbitsBackSpec)

/-- 'gradinelaw09.FbitsMakes', WHERE WHAT IT READS IS OF BULK AT MOST 1048576: true; the input reads as it did. -/
def fbitsMakesUptoRow : OpenClaim := { program := "ytbpggonjcnakgaa", sum := "7eb2b9639f85f24fd79309531b663e30f960258d159600e756a8acad6933825e", func := "gradine/gradinelaw09.FbitsMakes", spec := "fbitsMakes", apart := false, narrowed := true }
def FbitsMakesUptoSaid : Prop := fbitsMakesUptoRow.holds Try.pinned (OpenSpec.upto fbitsMakesSpec)

/-- 'gradinelaw10.FroundWords', WHERE WHAT IT READS IS OF BULK AT MOST 1048576: true; the input reads as it did. -/
def froundWordsUptoRow : OpenClaim := { program := "ytbpggonjcnakgaa", sum := "7eb2b9639f85f24fd79309531b663e30f960258d159600e756a8acad6933825e", func := "gradine/gradinelaw10.FroundWords", spec := "froundWords", apart := false, narrowed := true }
def FroundWordsUptoSaid : Prop := froundWordsUptoRow.holds Try.pinned (OpenSpec.upto froundWordsSpec)

/-- 'gradinelaw09.FbitsTells', WHERE WHAT IT READS IS OF BULK AT MOST 1048576: true; the input reads as it did. -/
def fbitsTellsUptoRow : OpenClaim := { program := "ytbpggonjcnakgaa", sum := "7eb2b9639f85f24fd79309531b663e30f960258d159600e756a8acad6933825e", func := "gradine/gradinelaw09.FbitsTells", spec := "fbitsTells", apart := false, narrowed := true }
def FbitsTellsUptoSaid : Prop := fbitsTellsUptoRow.holds Try.pinned (OpenSpec.upto fbitsTellsSpec)

/-- 'gradinelaw13.FcmpTells', WHERE WHAT IT READS IS OF BULK AT MOST 1048576: true; the input reads as it did. -/
def fcmpTellsUptoRow : OpenClaim := { program := "ytbpggonjcnakgaa", sum := "7eb2b9639f85f24fd79309531b663e30f960258d159600e756a8acad6933825e", func := "gradine/gradinelaw13.FcmpTells", spec := "fcmpTells", apart := false, narrowed := true }
def FcmpTellsUptoSaid : Prop := fcmpTellsUptoRow.holds Try.pinned (OpenSpec.upto fcmpTellsSpec)

/-- 'gradinelaw13.FcmpNear', WHERE WHAT IT READS IS OF BULK AT MOST 1048576: true; the input reads as it did. -/
def fcmpNearUptoRow : OpenClaim := { program := "ytbpggonjcnakgaa", sum := "7eb2b9639f85f24fd79309531b663e30f960258d159600e756a8acad6933825e", func := "gradine/gradinelaw13.FcmpNear", spec := "fcmpNear", apart := false, narrowed := true }
def FcmpNearUptoSaid : Prop := fcmpNearUptoRow.holds Try.pinned (OpenSpec.upto fcmpNearSpec)

/-- 'gradinelaw13.FcmpScales', WHERE WHAT IT READS IS OF BULK AT MOST 1048576: true; the input reads as it did. -/
def fcmpScalesUptoRow : OpenClaim := { program := "ytbpggonjcnakgaa", sum := "7eb2b9639f85f24fd79309531b663e30f960258d159600e756a8acad6933825e", func := "gradine/gradinelaw13.FcmpScales", spec := "fcmpScales", apart := false, narrowed := true }
def FcmpScalesUptoSaid : Prop := fcmpScalesUptoRow.holds Try.pinned (OpenSpec.upto fcmpScalesSpec)

/-- 'gradinelaw13.FcmpOrder', WHERE WHAT IT READS IS OF BULK AT MOST 1048576: true; the input reads as it did. -/
def fcmpOrderUptoRow : OpenClaim := { program := "ytbpggonjcnakgaa", sum := "7eb2b9639f85f24fd79309531b663e30f960258d159600e756a8acad6933825e", func := "gradine/gradinelaw13.FcmpOrder", spec := "fcmpOrder", apart := false, narrowed := true }
def FcmpOrderUptoSaid : Prop := fcmpOrderUptoRow.holds Try.pinned (OpenSpec.upto fcmpOrderSpec)

/-- 'gradinelaw11.FsumTells', WHERE WHAT IT READS IS OF BULK AT MOST 1048576: true; the input reads as it did. -/
def fsumTellsUptoRow : OpenClaim := { program := "ytbpggonjcnakgaa", sum := "7eb2b9639f85f24fd79309531b663e30f960258d159600e756a8acad6933825e", func := "gradine/gradinelaw11.FsumTells", spec := "fsumTells", apart := false, narrowed := true }
def FsumTellsUptoSaid : Prop := fsumTellsUptoRow.holds Try.pinned (OpenSpec.upto fsumTellsSpec)

/-- 'gradinelaw11.FsumTurns', WHERE WHAT IT READS IS OF BULK AT MOST 1048576: true; the input reads as it did. -/
def fsumTurnsUptoRow : OpenClaim := { program := "ytbpggonjcnakgaa", sum := "7eb2b9639f85f24fd79309531b663e30f960258d159600e756a8acad6933825e", func := "gradine/gradinelaw11.FsumTurns", spec := "fsumTurns", apart := false, narrowed := true }
def FsumTurnsUptoSaid : Prop := fsumTurnsUptoRow.holds Try.pinned (OpenSpec.upto fsumTurnsSpec)

/-- 'gradinelaw11.FsumExact', WHERE WHAT IT READS IS OF BULK AT MOST 1048576: true; the input reads as it did. -/
def fsumExactUptoRow : OpenClaim := { program := "ytbpggonjcnakgaa", sum := "7eb2b9639f85f24fd79309531b663e30f960258d159600e756a8acad6933825e", func := "gradine/gradinelaw11.FsumExact", spec := "fsumExact", apart := false, narrowed := true }
def FsumExactUptoSaid : Prop := fsumExactUptoRow.holds Try.pinned (OpenSpec.upto fsumExactSpec)

/-- 'gradinelaw10.FroundLists', WHERE WHAT IT READS IS OF BULK AT MOST 1048576: true; the input reads as it did. -/
def froundListsUptoRow : OpenClaim := { program := "ytbpggonjcnakgaa", sum := "7eb2b9639f85f24fd79309531b663e30f960258d159600e756a8acad6933825e", func := "gradine/gradinelaw10.FroundLists", spec := "froundLists", apart := false, narrowed := true }
def FroundListsUptoSaid : Prop := froundListsUptoRow.holds Try.pinned (OpenSpec.upto froundListsSpec)

/-- 'gradinelaw12.FprodTells', WHERE WHAT IT READS IS OF BULK AT MOST 1048576: true; the input reads as it did. -/
def fprodTellsUptoRow : OpenClaim := { program := "ytbpggonjcnakgaa", sum := "7eb2b9639f85f24fd79309531b663e30f960258d159600e756a8acad6933825e", func := "gradine/gradinelaw12.FprodTells", spec := "fprodTells", apart := false, narrowed := true }
def FprodTellsUptoSaid : Prop := fprodTellsUptoRow.holds Try.pinned (OpenSpec.upto fprodTellsSpec)

/-- 'gradinelaw12.FprodRoots', WHERE WHAT IT READS IS OF BULK AT MOST 1048576: true; the input reads as it did. -/
def fprodRootsUptoRow : OpenClaim := { program := "ytbpggonjcnakgaa", sum := "7eb2b9639f85f24fd79309531b663e30f960258d159600e756a8acad6933825e", func := "gradine/gradinelaw12.FprodRoots", spec := "fprodRoots", apart := false, narrowed := true }
def FprodRootsUptoSaid : Prop := fprodRootsUptoRow.holds Try.pinned (OpenSpec.upto fprodRootsSpec)

/-- 'gradinelaw12.FprodTurns', WHERE WHAT IT READS IS OF BULK AT MOST 1048576: true; the input reads as it did. -/
def fprodTurnsUptoRow : OpenClaim := { program := "ytbpggonjcnakgaa", sum := "7eb2b9639f85f24fd79309531b663e30f960258d159600e756a8acad6933825e", func := "gradine/gradinelaw12.FprodTurns", spec := "fprodTurns", apart := false, narrowed := true }
def FprodTurnsUptoSaid : Prop := fprodTurnsUptoRow.holds Try.pinned (OpenSpec.upto fprodTurnsSpec)

/-- 'gradinelaw12.FprodSquares', WHERE WHAT IT READS IS OF BULK AT MOST 1048576: true; the input reads as it did. -/
def fprodSquaresUptoRow : OpenClaim := { program := "ytbpggonjcnakgaa", sum := "7eb2b9639f85f24fd79309531b663e30f960258d159600e756a8acad6933825e", func := "gradine/gradinelaw12.FprodSquares", spec := "fprodSquares", apart := false, narrowed := true }
def FprodSquaresUptoSaid : Prop := fprodSquaresUptoRow.holds Try.pinned (OpenSpec.upto fprodSquaresSpec)

/-- 'gradinelaw14.KernelTells', WHERE WHAT IT READS IS OF BULK AT MOST 1048576: true; the input reads as it did. -/
def kernelTellsUptoRow : OpenClaim := { program := "ytbpggonjcnakgaa", sum := "7eb2b9639f85f24fd79309531b663e30f960258d159600e756a8acad6933825e", func := "gradine/gradinelaw14.KernelTells", spec := "kernelTells", apart := false, narrowed := true }
def KernelTellsUptoSaid : Prop := kernelTellsUptoRow.holds Try.pinned (OpenSpec.upto kernelTellsSpec)

/-- 'gradinelaw14.KernelSigns', WHERE WHAT IT READS IS OF BULK AT MOST 1048576: true; the input reads as it did. -/
def kernelSignsUptoRow : OpenClaim := { program := "ytbpggonjcnakgaa", sum := "7eb2b9639f85f24fd79309531b663e30f960258d159600e756a8acad6933825e", func := "gradine/gradinelaw14.KernelSigns", spec := "kernelSigns", apart := false, narrowed := true }
def KernelSignsUptoSaid : Prop := kernelSignsUptoRow.holds Try.pinned (OpenSpec.upto kernelSignsSpec)

/-- 'gradinelaw10.FroundNearest', WHERE WHAT IT READS IS OF BULK AT MOST 1048576: true; the input reads as it did. -/
def froundNearestUptoRow : OpenClaim := { program := "ytbpggonjcnakgaa", sum := "7eb2b9639f85f24fd79309531b663e30f960258d159600e756a8acad6933825e", func := "gradine/gradinelaw10.FroundNearest", spec := "froundNearest", apart := false, narrowed := true }
def FroundNearestUptoSaid : Prop := froundNearestUptoRow.holds Try.pinned (OpenSpec.upto froundNearestSpec)

/-- 'gradinelaw10.FroundRats', WHERE WHAT IT READS IS OF BULK AT MOST 1048576: true; the input reads as it did. -/
def froundRatsUptoRow : OpenClaim := { program := "ytbpggonjcnakgaa", sum := "7eb2b9639f85f24fd79309531b663e30f960258d159600e756a8acad6933825e", func := "gradine/gradinelaw10.FroundRats", spec := "froundRats", apart := false, narrowed := true }
def FroundRatsUptoSaid : Prop := froundRatsUptoRow.holds Try.pinned (OpenSpec.upto froundRatsSpec)

/-- 'gradinelaw10.FroundBack', WHERE WHAT IT READS IS OF BULK AT MOST 1048576: true; the input reads as it did. -/
def froundBackUptoRow : OpenClaim := { program := "ytbpggonjcnakgaa", sum := "7eb2b9639f85f24fd79309531b663e30f960258d159600e756a8acad6933825e", func := "gradine/gradinelaw10.FroundBack", spec := "froundBack", apart := false, narrowed := true }
def FroundBackUptoSaid : Prop := froundBackUptoRow.holds Try.pinned (OpenSpec.upto froundBackSpec)

end Rows
end Go.Proofs.Ytbpggonjcnakgaa
