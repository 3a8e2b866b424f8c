/-
  No cell of these rows narrows 'for every input' (looked for: loops, veiled, ifaces, maps, wideKeys, modest, calm, conditions, laid).
  DERIVED. THE GIVEN ROWS OF THIS SEAT. 30 by the template 'for every input the law returns true; each argument reads behind the call as it read before'; 0 by the template 'total and deterministic' (their statements: YtldcgclbgbhffaaTotals.lean).
  GIVEN WITH THE SEED: the statements are not yours to turn. If you find one false, say at which input.
  Laid BY PROGRAM, IN A SANDBOX (cutbox-rows.mjs): the forced cells as the released guide's own fill.sh prints them over the translation c64d272e94c96ced… (all of the seat's roots in one cut). By AI agents, Wed Nov 11 2026. No macro, syntax, notation, axiom, sorry.
-/
import Derived.Test.YtldcgclbgbhffaaChecked
import GoSem.Claim
import GoSem.ClaimJoined
import GoSem.ClaimMapViews
import Derived.JoinedTies
import Derived.KernelRfl
namespace Go.Proofs.Ytldcgclbgbhffaa
/- THE CELL 'sum', in the pinned program and in every row, IS THE sha256 OF THE DUMP (.gsa) THAT YtldcgclbgbhffaaProg.lean LOADS. Nothing in Lean hashes anything: it is a label: what it is worth is what the hold of that sum in a sandbox is worth. -/
noncomputable def Try.pinned : Pinned := { name := "ytldcgclbgbhffaa", sum := "c64d272e94c96cedfd5dd4a25e2de44e3611a4f7fb27cbae2a98b0d539b97a52", checked := Try.checked }
namespace Rows
def none {H : Type} : Left H := { results := [], args := [] }

/-- 'gradinelaw01.LimbProducts': WHATEVER THE INPUT: true; the input reads as it did. -/
def limbProductsSpec : ChangeSpec := { name := "limbProducts", fn := fun _ => fun
  | [d1, d2, d3] => { results := [.lit (.bool true)], args := [d1, d2, d3] }
  | _ => none }
def limbProductsRow : OpenClaim := { program := "ytldcgclbgbhffaa", sum := "c64d272e94c96cedfd5dd4a25e2de44e3611a4f7fb27cbae2a98b0d539b97a52", func := "gradine/gradinelaw01.LimbProducts", spec := "limbProducts", apart := false }
def LimbProductsSaid : Prop := limbProductsRow.holds Try.pinned (OpenSpec.ofChange limbProductsSpec)

/-- ITS FALSE NEIGHBOUR: 'it returns false'. Refute it at one input. -/
def limbProductsWrong : ChangeSpec := { name := "limbProducts", fn := fun _ => fun
  | [d1, d2, d3] => { results := [.lit (.bool false)], args := [d1, d2, d3] }
  | _ => none }
def LimbProductsWrongFalsely : Prop := limbProductsRow.holds Try.pinned (OpenSpec.ofChange limbProductsWrong)

/-- 'gradinelaw01.LimbAdds': WHATEVER THE INPUT: true; the input reads as it did. -/
def limbAddsSpec : ChangeSpec := { name := "limbAdds", fn := fun _ => fun
  | [d1, d2, d3] => { results := [.lit (.bool true)], args := [d1, d2, d3] }
  | _ => none }
def limbAddsRow : OpenClaim := { program := "ytldcgclbgbhffaa", sum := "c64d272e94c96cedfd5dd4a25e2de44e3611a4f7fb27cbae2a98b0d539b97a52", func := "gradine/gradinelaw01.LimbAdds", spec := "limbAdds", apart := false }
def LimbAddsSaid : Prop := limbAddsRow.holds Try.pinned (OpenSpec.ofChange limbAddsSpec)

/-- ITS FALSE NEIGHBOUR: 'it returns false'. Refute it at one input. -/
def limbAddsWrong : ChangeSpec := { name := "limbAdds", fn := fun _ => fun
  | [d1, d2, d3] => { results := [.lit (.bool false)], args := [d1, d2, d3] }
  | _ => none }
def LimbAddsWrongFalsely : Prop := limbAddsRow.holds Try.pinned (OpenSpec.ofChange limbAddsWrong)

/-- 'gradinelaw01.LimbBack': WHATEVER THE INPUT: true; the input reads as it did. -/
def limbBackSpec : ChangeSpec := { name := "limbBack", fn := fun _ => fun
  | [d1, d2, d3] => { results := [.lit (.bool true)], args := [d1, d2, d3] }
  | _ => none }
def limbBackRow : OpenClaim := { program := "ytldcgclbgbhffaa", sum := "c64d272e94c96cedfd5dd4a25e2de44e3611a4f7fb27cbae2a98b0d539b97a52", func := "gradine/gradinelaw01.LimbBack", spec := "limbBack", apart := false }
def LimbBackSaid : Prop := limbBackRow.holds Try.pinned (OpenSpec.ofChange limbBackSpec)

/-- ITS FALSE NEIGHBOUR: 'it returns false'. Refute it at one input. -/
def limbBackWrong : ChangeSpec := { name := "limbBack", fn := fun _ => fun
  | [d1, d2, d3] => { results := [.lit (.bool false)], args := [d1, d2, d3] }
  | _ => none }
def LimbBackWrongFalsely : Prop := limbBackRow.holds Try.pinned (OpenSpec.ofChange limbBackWrong)

/-- 'gradinelaw02.NatShifts': WHATEVER THE INPUT: true; the input reads as it did. -/
def natShiftsSpec : ChangeSpec := { name := "natShifts", fn := fun _ => fun
  | [d1, d2, d3] => { results := [.lit (.bool true)], args := [d1, d2, d3] }
  | _ => none }
def natShiftsRow : OpenClaim := { program := "ytldcgclbgbhffaa", sum := "c64d272e94c96cedfd5dd4a25e2de44e3611a4f7fb27cbae2a98b0d539b97a52", func := "gradine/gradinelaw02.NatShifts", spec := "natShifts", apart := false }
def NatShiftsSaid : Prop := natShiftsRow.holds Try.pinned (OpenSpec.ofChange natShiftsSpec)

/-- ITS FALSE NEIGHBOUR: 'it returns false'. Refute it at one input. -/
def natShiftsWrong : ChangeSpec := { name := "natShifts", fn := fun _ => fun
  | [d1, d2, d3] => { results := [.lit (.bool false)], args := [d1, d2, d3] }
  | _ => none }
def NatShiftsWrongFalsely : Prop := natShiftsRow.holds Try.pinned (OpenSpec.ofChange natShiftsWrong)

/-- 'gradinelaw02.NatTells': WHATEVER THE INPUT: true; the input reads as it did. -/
def natTellsSpec : ChangeSpec := { name := "natTells", fn := fun _ => fun
  | [d1, d2, d3] => { results := [.lit (.bool true)], args := [d1, d2, d3] }
  | _ => none }
def natTellsRow : OpenClaim := { program := "ytldcgclbgbhffaa", sum := "c64d272e94c96cedfd5dd4a25e2de44e3611a4f7fb27cbae2a98b0d539b97a52", func := "gradine/gradinelaw02.NatTells", spec := "natTells", apart := false }
def NatTellsSaid : Prop := natTellsRow.holds Try.pinned (OpenSpec.ofChange natTellsSpec)

/-- ITS FALSE NEIGHBOUR: 'it returns false'. Refute it at one input. -/
def natTellsWrong : ChangeSpec := { name := "natTells", fn := fun _ => fun
  | [d1, d2, d3] => { results := [.lit (.bool false)], args := [d1, d2, d3] }
  | _ => none }
def NatTellsWrongFalsely : Prop := natTellsRow.holds Try.pinned (OpenSpec.ofChange natTellsWrong)

/-- 'gradinelaw02.NatRing': WHATEVER THE INPUT: true; the input reads as it did. -/
def natRingSpec : ChangeSpec := { name := "natRing", fn := fun _ => fun
  | [d1, d2, d3] => { results := [.lit (.bool true)], args := [d1, d2, d3] }
  | _ => none }
def natRingRow : OpenClaim := { program := "ytldcgclbgbhffaa", sum := "c64d272e94c96cedfd5dd4a25e2de44e3611a4f7fb27cbae2a98b0d539b97a52", func := "gradine/gradinelaw02.NatRing", spec := "natRing", apart := false }
def NatRingSaid : Prop := natRingRow.holds Try.pinned (OpenSpec.ofChange natRingSpec)

/-- ITS FALSE NEIGHBOUR: 'it returns false'. Refute it at one input. -/
def natRingWrong : ChangeSpec := { name := "natRing", fn := fun _ => fun
  | [d1, d2, d3] => { results := [.lit (.bool false)], args := [d1, d2, d3] }
  | _ => none }
def NatRingWrongFalsely : Prop := natRingRow.holds Try.pinned (OpenSpec.ofChange natRingWrong)

/-- 'gradinelaw02.NatSums': WHATEVER THE INPUT: true; the input reads as it did. -/
def natSumsSpec : ChangeSpec := { name := "natSums", fn := fun _ => fun
  | [d1, d2, d3] => { results := [.lit (.bool true)], args := [d1, d2, d3] }
  | _ => none }
def natSumsRow : OpenClaim := { program := "ytldcgclbgbhffaa", sum := "c64d272e94c96cedfd5dd4a25e2de44e3611a4f7fb27cbae2a98b0d539b97a52", func := "gradine/gradinelaw02.NatSums", spec := "natSums", apart := false }
def NatSumsSaid : Prop := natSumsRow.holds Try.pinned (OpenSpec.ofChange natSumsSpec)

/-- ITS FALSE NEIGHBOUR: 'it returns false'. Refute it at one input. -/
def natSumsWrong : ChangeSpec := { name := "natSums", fn := fun _ => fun
  | [d1, d2, d3] => { results := [.lit (.bool false)], args := [d1, d2, d3] }
  | _ => none }
def NatSumsWrongFalsely : Prop := natSumsRow.holds Try.pinned (OpenSpec.ofChange natSumsWrong)

/-- 'gradinelaw03.ProdPowers': WHATEVER THE INPUT: true; the input reads as it did. -/
def prodPowersSpec : ChangeSpec := { name := "prodPowers", fn := fun _ => fun
  | [d1, d2] => { results := [.lit (.bool true)], args := [d1, d2] }
  | _ => none }
def prodPowersRow : OpenClaim := { program := "ytldcgclbgbhffaa", sum := "c64d272e94c96cedfd5dd4a25e2de44e3611a4f7fb27cbae2a98b0d539b97a52", func := "gradine/gradinelaw03.ProdPowers", spec := "prodPowers", recurses := true, apart := false }
def ProdPowersSaid : Prop := prodPowersRow.holds Try.pinned (OpenSpec.ofChange prodPowersSpec)

/-- ITS FALSE NEIGHBOUR: 'it returns false'. Refute it at one input. -/
def prodPowersWrong : ChangeSpec := { name := "prodPowers", fn := fun _ => fun
  | [d1, d2] => { results := [.lit (.bool false)], args := [d1, d2] }
  | _ => none }
def ProdPowersWrongFalsely : Prop := prodPowersRow.holds Try.pinned (OpenSpec.ofChange prodPowersWrong)

/-- 'gradinelaw03.ProdRing': WHATEVER THE INPUT: true; the input reads as it did. -/
def prodRingSpec : ChangeSpec := { name := "prodRing", fn := fun _ => fun
  | [d1, d2, d3] => { results := [.lit (.bool true)], args := [d1, d2, d3] }
  | _ => none }
def prodRingRow : OpenClaim := { program := "ytldcgclbgbhffaa", sum := "c64d272e94c96cedfd5dd4a25e2de44e3611a4f7fb27cbae2a98b0d539b97a52", func := "gradine/gradinelaw03.ProdRing", spec := "prodRing", recurses := true, apart := false }
def ProdRingSaid : Prop := prodRingRow.holds Try.pinned (OpenSpec.ofChange prodRingSpec)

/-- ITS FALSE NEIGHBOUR: 'it returns false'. Refute it at one input. -/
def prodRingWrong : ChangeSpec := { name := "prodRing", fn := fun _ => fun
  | [d1, d2, d3] => { results := [.lit (.bool false)], args := [d1, d2, d3] }
  | _ => none }
def ProdRingWrongFalsely : Prop := prodRingRow.holds Try.pinned (OpenSpec.ofChange prodRingWrong)

/-- 'gradinelaw03.ProdAdds': WHATEVER THE INPUT: true; the input reads as it did. -/
def prodAddsSpec : ChangeSpec := { name := "prodAdds", fn := fun _ => fun
  | [d1, d2, d3] => { results := [.lit (.bool true)], args := [d1, d2, d3] }
  | _ => none }
def prodAddsRow : OpenClaim := { program := "ytldcgclbgbhffaa", sum := "c64d272e94c96cedfd5dd4a25e2de44e3611a4f7fb27cbae2a98b0d539b97a52", func := "gradine/gradinelaw03.ProdAdds", spec := "prodAdds", recurses := true, apart := false }
def ProdAddsSaid : Prop := prodAddsRow.holds Try.pinned (OpenSpec.ofChange prodAddsSpec)

/-- ITS FALSE NEIGHBOUR: 'it returns false'. Refute it at one input. -/
def prodAddsWrong : ChangeSpec := { name := "prodAdds", fn := fun _ => fun
  | [d1, d2, d3] => { results := [.lit (.bool false)], args := [d1, d2, d3] }
  | _ => none }
def ProdAddsWrongFalsely : Prop := prodAddsRow.holds Try.pinned (OpenSpec.ofChange prodAddsWrong)

/-- 'gradinelaw06.DigitTells': WHATEVER THE INPUT: true; the input reads as it did. -/
def digitTellsSpec : ChangeSpec := { name := "digitTells", fn := fun _ => fun
  | [d1, d2] => { results := [.lit (.bool true)], args := [d1, d2] }
  | _ => none }
def digitTellsRow : OpenClaim := { program := "ytldcgclbgbhffaa", sum := "c64d272e94c96cedfd5dd4a25e2de44e3611a4f7fb27cbae2a98b0d539b97a52", func := "gradine/gradinelaw06.DigitTells", spec := "digitTells", apart := false }
def DigitTellsSaid : Prop := digitTellsRow.holds Try.pinned (OpenSpec.ofChange digitTellsSpec)

/-- ITS FALSE NEIGHBOUR: 'it returns false'. Refute it at one input. -/
def digitTellsWrong : ChangeSpec := { name := "digitTells", fn := fun _ => fun
  | [d1, d2] => { results := [.lit (.bool false)], args := [d1, d2] }
  | _ => none }
def DigitTellsWrongFalsely : Prop := digitTellsRow.holds Try.pinned (OpenSpec.ofChange digitTellsWrong)

/-- 'gradinelaw06.DigitBack': WHATEVER THE INPUT: true; the input reads as it did. -/
def digitBackSpec : ChangeSpec := { name := "digitBack", fn := fun _ => fun
  | [d1, d2] => { results := [.lit (.bool true)], args := [d1, d2] }
  | _ => none }
def digitBackRow : OpenClaim := { program := "ytldcgclbgbhffaa", sum := "c64d272e94c96cedfd5dd4a25e2de44e3611a4f7fb27cbae2a98b0d539b97a52", func := "gradine/gradinelaw06.DigitBack", spec := "digitBack", apart := false }
def DigitBackSaid : Prop := digitBackRow.holds Try.pinned (OpenSpec.ofChange digitBackSpec)

/-- ITS FALSE NEIGHBOUR: 'it returns false'. Refute it at one input. -/
def digitBackWrong : ChangeSpec := { name := "digitBack", fn := fun _ => fun
  | [d1, d2] => { results := [.lit (.bool false)], args := [d1, d2] }
  | _ => none }
def DigitBackWrongFalsely : Prop := digitBackRow.holds Try.pinned (OpenSpec.ofChange digitBackWrong)

/-- 'gradinelaw06.DigitOrder': WHATEVER THE INPUT: true; the input reads as it did. -/
def digitOrderSpec : ChangeSpec := { name := "digitOrder", fn := fun _ => fun
  | [d1, d2] => { results := [.lit (.bool true)], args := [d1, d2] }
  | _ => none }
def digitOrderRow : OpenClaim := { program := "ytldcgclbgbhffaa", sum := "c64d272e94c96cedfd5dd4a25e2de44e3611a4f7fb27cbae2a98b0d539b97a52", func := "gradine/gradinelaw06.DigitOrder", spec := "digitOrder", apart := false }
def DigitOrderSaid : Prop := digitOrderRow.holds Try.pinned (OpenSpec.ofChange digitOrderSpec)

/-- ITS FALSE NEIGHBOUR: 'it returns false'. Refute it at one input. -/
def digitOrderWrong : ChangeSpec := { name := "digitOrder", fn := fun _ => fun
  | [d1, d2] => { results := [.lit (.bool false)], args := [d1, d2] }
  | _ => none }
def DigitOrderWrongFalsely : Prop := digitOrderRow.holds Try.pinned (OpenSpec.ofChange digitOrderWrong)

/-- 'gradinelaw03.ProdTells': WHATEVER THE INPUT: true; the input reads as it did. -/
def prodTellsSpec : ChangeSpec := { name := "prodTells", fn := fun _ => fun
  | [d1, d2, d3] => { results := [.lit (.bool true)], args := [d1, d2, d3] }
  | _ => none }
def prodTellsRow : OpenClaim := { program := "ytldcgclbgbhffaa", sum := "c64d272e94c96cedfd5dd4a25e2de44e3611a4f7fb27cbae2a98b0d539b97a52", func := "gradine/gradinelaw03.ProdTells", spec := "prodTells", recurses := true, apart := false }
def ProdTellsSaid : Prop := prodTellsRow.holds Try.pinned (OpenSpec.ofChange prodTellsSpec)

/-- ITS FALSE NEIGHBOUR: 'it returns false'. Refute it at one input. -/
def prodTellsWrong : ChangeSpec := { name := "prodTells", fn := fun _ => fun
  | [d1, d2, d3] => { results := [.lit (.bool false)], args := [d1, d2, d3] }
  | _ => none }
def ProdTellsWrongFalsely : Prop := prodTellsRow.holds Try.pinned (OpenSpec.ofChange prodTellsWrong)

/-- 'gradinelaw03.ProdBits': WHATEVER THE INPUT: true; the input reads as it did. -/
def prodBitsSpec : ChangeSpec := { name := "prodBits", fn := fun _ => fun
  | [d1, d2] => { results := [.lit (.bool true)], args := [d1, d2] }
  | _ => none }
def prodBitsRow : OpenClaim := { program := "ytldcgclbgbhffaa", sum := "c64d272e94c96cedfd5dd4a25e2de44e3611a4f7fb27cbae2a98b0d539b97a52", func := "gradine/gradinelaw03.ProdBits", spec := "prodBits", recurses := true, apart := false }
def ProdBitsSaid : Prop := prodBitsRow.holds Try.pinned (OpenSpec.ofChange prodBitsSpec)

/-- ITS FALSE NEIGHBOUR: 'it returns false'. Refute it at one input. -/
def prodBitsWrong : ChangeSpec := { name := "prodBits", fn := fun _ => fun
  | [d1, d2] => { results := [.lit (.bool false)], args := [d1, d2] }
  | _ => none }
def ProdBitsWrongFalsely : Prop := prodBitsRow.holds Try.pinned (OpenSpec.ofChange prodBitsWrong)

/-- 'gradinelaw04.QuotTells': WHATEVER THE INPUT: true; the input reads as it did. -/
def quotTellsSpec : ChangeSpec := { name := "quotTells", fn := fun _ => fun
  | [d1, d2, d3] => { results := [.lit (.bool true)], args := [d1, d2, d3] }
  | _ => none }
def quotTellsRow : OpenClaim := { program := "ytldcgclbgbhffaa", sum := "c64d272e94c96cedfd5dd4a25e2de44e3611a4f7fb27cbae2a98b0d539b97a52", func := "gradine/gradinelaw04.QuotTells", spec := "quotTells", apart := false }
def QuotTellsSaid : Prop := quotTellsRow.holds Try.pinned (OpenSpec.ofChange quotTellsSpec)

/-- ITS FALSE NEIGHBOUR: 'it returns false'. Refute it at one input. -/
def quotTellsWrong : ChangeSpec := { name := "quotTells", fn := fun _ => fun
  | [d1, d2, d3] => { results := [.lit (.bool false)], args := [d1, d2, d3] }
  | _ => none }
def QuotTellsWrongFalsely : Prop := quotTellsRow.holds Try.pinned (OpenSpec.ofChange quotTellsWrong)

/-- 'gradinelaw05.GcdGreatest': WHATEVER THE INPUT: true; the input reads as it did. -/
def gcdGreatestSpec : ChangeSpec := { name := "gcdGreatest", fn := fun _ => fun
  | [d1, d2, d3] => { results := [.lit (.bool true)], args := [d1, d2, d3] }
  | _ => none }
def gcdGreatestRow : OpenClaim := { program := "ytldcgclbgbhffaa", sum := "c64d272e94c96cedfd5dd4a25e2de44e3611a4f7fb27cbae2a98b0d539b97a52", func := "gradine/gradinelaw05.GcdGreatest", spec := "gcdGreatest", apart := false }
def GcdGreatestSaid : Prop := gcdGreatestRow.holds Try.pinned (OpenSpec.ofChange gcdGreatestSpec)

/-- ITS FALSE NEIGHBOUR: 'it returns false'. Refute it at one input. -/
def gcdGreatestWrong : ChangeSpec := { name := "gcdGreatest", fn := fun _ => fun
  | [d1, d2, d3] => { results := [.lit (.bool false)], args := [d1, d2, d3] }
  | _ => none }
def GcdGreatestWrongFalsely : Prop := gcdGreatestRow.holds Try.pinned (OpenSpec.ofChange gcdGreatestWrong)

/-- 'gradinelaw04.QuotBack': WHATEVER THE INPUT: true; the input reads as it did. -/
def quotBackSpec : ChangeSpec := { name := "quotBack", fn := fun _ => fun
  | [d1, d2, d3] => { results := [.lit (.bool true)], args := [d1, d2, d3] }
  | _ => none }
def quotBackRow : OpenClaim := { program := "ytldcgclbgbhffaa", sum := "c64d272e94c96cedfd5dd4a25e2de44e3611a4f7fb27cbae2a98b0d539b97a52", func := "gradine/gradinelaw04.QuotBack", spec := "quotBack", recurses := true, apart := false }
def QuotBackSaid : Prop := quotBackRow.holds Try.pinned (OpenSpec.ofChange quotBackSpec)

/-- ITS FALSE NEIGHBOUR: 'it returns false'. Refute it at one input. -/
def quotBackWrong : ChangeSpec := { name := "quotBack", fn := fun _ => fun
  | [d1, d2, d3] => { results := [.lit (.bool false)], args := [d1, d2, d3] }
  | _ => none }
def QuotBackWrongFalsely : Prop := quotBackRow.holds Try.pinned (OpenSpec.ofChange quotBackWrong)

/-- 'gradinelaw04.QuotRoots': WHATEVER THE INPUT: true; the input reads as it did. -/
def quotRootsSpec : ChangeSpec := { name := "quotRoots", fn := fun _ => fun
  | [d] => { results := [.lit (.bool true)], args := [d] }
  | _ => none }
def quotRootsRow : OpenClaim := { program := "ytldcgclbgbhffaa", sum := "c64d272e94c96cedfd5dd4a25e2de44e3611a4f7fb27cbae2a98b0d539b97a52", func := "gradine/gradinelaw04.QuotRoots", spec := "quotRoots", recurses := true, apart := false }
def QuotRootsSaid : Prop := quotRootsRow.holds Try.pinned (OpenSpec.ofChange quotRootsSpec)

/-- ITS FALSE NEIGHBOUR: 'it returns false'. Refute it at one input. -/
def quotRootsWrong : ChangeSpec := { name := "quotRoots", fn := fun _ => fun
  | [d] => { results := [.lit (.bool false)], args := [d] }
  | _ => none }
def QuotRootsWrongFalsely : Prop := quotRootsRow.holds Try.pinned (OpenSpec.ofChange quotRootsWrong)

/-- 'gradinelaw05.GcdTells': WHATEVER THE INPUT: true; the input reads as it did. -/
def gcdTellsSpec : ChangeSpec := { name := "gcdTells", fn := fun _ => fun
  | [d1, d2] => { results := [.lit (.bool true)], args := [d1, d2] }
  | _ => none }
def gcdTellsRow : OpenClaim := { program := "ytldcgclbgbhffaa", sum := "c64d272e94c96cedfd5dd4a25e2de44e3611a4f7fb27cbae2a98b0d539b97a52", func := "gradine/gradinelaw05.GcdTells", spec := "gcdTells", recurses := true, apart := false }
def GcdTellsSaid : Prop := gcdTellsRow.holds Try.pinned (OpenSpec.ofChange gcdTellsSpec)

/-- ITS FALSE NEIGHBOUR: 'it returns false'. Refute it at one input. -/
def gcdTellsWrong : ChangeSpec := { name := "gcdTells", fn := fun _ => fun
  | [d1, d2] => { results := [.lit (.bool false)], args := [d1, d2] }
  | _ => none }
def GcdTellsWrongFalsely : Prop := gcdTellsRow.holds Try.pinned (OpenSpec.ofChange gcdTellsWrong)

/-- 'gradinelaw05.GcdProduct': WHATEVER THE INPUT: true; the input reads as it did. -/
def gcdProductSpec : ChangeSpec := { name := "gcdProduct", fn := fun _ => fun
  | [d1, d2] => { results := [.lit (.bool true)], args := [d1, d2] }
  | _ => none }
def gcdProductRow : OpenClaim := { program := "ytldcgclbgbhffaa", sum := "c64d272e94c96cedfd5dd4a25e2de44e3611a4f7fb27cbae2a98b0d539b97a52", func := "gradine/gradinelaw05.GcdProduct", spec := "gcdProduct", recurses := true, apart := false }
def GcdProductSaid : Prop := gcdProductRow.holds Try.pinned (OpenSpec.ofChange gcdProductSpec)

/-- ITS FALSE NEIGHBOUR: 'it returns false'. Refute it at one input. -/
def gcdProductWrong : ChangeSpec := { name := "gcdProduct", fn := fun _ => fun
  | [d1, d2] => { results := [.lit (.bool false)], args := [d1, d2] }
  | _ => none }
def GcdProductWrongFalsely : Prop := gcdProductRow.holds Try.pinned (OpenSpec.ofChange gcdProductWrong)

/-- 'gradinelaw07.RatMakes': WHATEVER THE INPUT: true; the input reads as it did. -/
def ratMakesSpec : ChangeSpec := { name := "ratMakes", fn := fun _ => fun
  | [d1, d2, d3] => { results := [.lit (.bool true)], args := [d1, d2, d3] }
  | _ => none }
def ratMakesRow : OpenClaim := { program := "ytldcgclbgbhffaa", sum := "c64d272e94c96cedfd5dd4a25e2de44e3611a4f7fb27cbae2a98b0d539b97a52", func := "gradine/gradinelaw07.RatMakes", spec := "ratMakes", recurses := true, apart := false }
def RatMakesSaid : Prop := ratMakesRow.holds Try.pinned (OpenSpec.ofChange ratMakesSpec)

/-- ITS FALSE NEIGHBOUR: 'it returns false'. Refute it at one input. -/
def ratMakesWrong : ChangeSpec := { name := "ratMakes", fn := fun _ => fun
  | [d1, d2, d3] => { results := [.lit (.bool false)], args := [d1, d2, d3] }
  | _ => none }
def RatMakesWrongFalsely : Prop := ratMakesRow.holds Try.pinned (OpenSpec.ofChange ratMakesWrong)

/-- 'gradinelaw07.RatTells': WHATEVER THE INPUT: true; the input reads as it did. -/
def ratTellsSpec : ChangeSpec := { name := "ratTells", fn := fun _ => fun
  | [d1, d2] => { results := [.lit (.bool true)], args := [d1, d2] }
  | _ => none }
def ratTellsRow : OpenClaim := { program := "ytldcgclbgbhffaa", sum := "c64d272e94c96cedfd5dd4a25e2de44e3611a4f7fb27cbae2a98b0d539b97a52", func := "gradine/gradinelaw07.RatTells", spec := "ratTells", recurses := true, apart := false }
def RatTellsSaid : Prop := ratTellsRow.holds Try.pinned (OpenSpec.ofChange ratTellsSpec)

/-- ITS FALSE NEIGHBOUR: 'it returns false'. Refute it at one input. -/
def ratTellsWrong : ChangeSpec := { name := "ratTells", fn := fun _ => fun
  | [d1, d2] => { results := [.lit (.bool false)], args := [d1, d2] }
  | _ => none }
def RatTellsWrongFalsely : Prop := ratTellsRow.holds Try.pinned (OpenSpec.ofChange ratTellsWrong)

/-- 'gradinelaw07.RatOrder': WHATEVER THE INPUT: true; the input reads as it did. -/
def ratOrderSpec : ChangeSpec := { name := "ratOrder", fn := fun _ => fun
  | [d1, d2, d3] => { results := [.lit (.bool true)], args := [d1, d2, d3] }
  | _ => none }
def ratOrderRow : OpenClaim := { program := "ytldcgclbgbhffaa", sum := "c64d272e94c96cedfd5dd4a25e2de44e3611a4f7fb27cbae2a98b0d539b97a52", func := "gradine/gradinelaw07.RatOrder", spec := "ratOrder", recurses := true, apart := false }
def RatOrderSaid : Prop := ratOrderRow.holds Try.pinned (OpenSpec.ofChange ratOrderSpec)

/-- ITS FALSE NEIGHBOUR: 'it returns false'. Refute it at one input. -/
def ratOrderWrong : ChangeSpec := { name := "ratOrder", fn := fun _ => fun
  | [d1, d2, d3] => { results := [.lit (.bool false)], args := [d1, d2, d3] }
  | _ => none }
def RatOrderWrongFalsely : Prop := ratOrderRow.holds Try.pinned (OpenSpec.ofChange ratOrderWrong)

/-- 'gradinelaw07.RatInts': WHATEVER THE INPUT: true; the input reads as it did. -/
def ratIntsSpec : ChangeSpec := { name := "ratInts", fn := fun _ => fun
  | [d1, d2] => { results := [.lit (.bool true)], args := [d1, d2] }
  | _ => none }
def ratIntsRow : OpenClaim := { program := "ytldcgclbgbhffaa", sum := "c64d272e94c96cedfd5dd4a25e2de44e3611a4f7fb27cbae2a98b0d539b97a52", func := "gradine/gradinelaw07.RatInts", spec := "ratInts", recurses := true, apart := false }
def RatIntsSaid : Prop := ratIntsRow.holds Try.pinned (OpenSpec.ofChange ratIntsSpec)

/-- ITS FALSE NEIGHBOUR: 'it returns false'. Refute it at one input. -/
def ratIntsWrong : ChangeSpec := { name := "ratInts", fn := fun _ => fun
  | [d1, d2] => { results := [.lit (.bool false)], args := [d1, d2] }
  | _ => none }
def RatIntsWrongFalsely : Prop := ratIntsRow.holds Try.pinned (OpenSpec.ofChange ratIntsWrong)

/-- 'gradinelaw07.RatField': WHATEVER THE INPUT: true; the input reads as it did. -/
def ratFieldSpec : ChangeSpec := { name := "ratField", fn := fun _ => fun
  | [d1, d2, d3] => { results := [.lit (.bool true)], args := [d1, d2, d3] }
  | _ => none }
def ratFieldRow : OpenClaim := { program := "ytldcgclbgbhffaa", sum := "c64d272e94c96cedfd5dd4a25e2de44e3611a4f7fb27cbae2a98b0d539b97a52", func := "gradine/gradinelaw07.RatField", spec := "ratField", recurses := true, apart := false }
def RatFieldSaid : Prop := ratFieldRow.holds Try.pinned (OpenSpec.ofChange ratFieldSpec)

/-- ITS FALSE NEIGHBOUR: 'it returns false'. Refute it at one input. -/
def ratFieldWrong : ChangeSpec := { name := "ratField", fn := fun _ => fun
  | [d1, d2, d3] => { results := [.lit (.bool false)], args := [d1, d2, d3] }
  | _ => none }
def RatFieldWrongFalsely : Prop := ratFieldRow.holds Try.pinned (OpenSpec.ofChange ratFieldWrong)

/-- 'gradinelaw08.PowerTexts': WHATEVER THE INPUT: true; the input reads as it did. -/
def powerTextsSpec : ChangeSpec := { name := "powerTexts", fn := fun _ => fun
  | [d1, d2] => { results := [.lit (.bool true)], args := [d1, d2] }
  | _ => none }
def powerTextsRow : OpenClaim := { program := "ytldcgclbgbhffaa", sum := "c64d272e94c96cedfd5dd4a25e2de44e3611a4f7fb27cbae2a98b0d539b97a52", func := "gradine/gradinelaw08.PowerTexts", spec := "powerTexts", recurses := true, apart := false }
def PowerTextsSaid : Prop := powerTextsRow.holds Try.pinned (OpenSpec.ofChange powerTextsSpec)

/-- ITS FALSE NEIGHBOUR: 'it returns false'. Refute it at one input. -/
def powerTextsWrong : ChangeSpec := { name := "powerTexts", fn := fun _ => fun
  | [d1, d2] => { results := [.lit (.bool false)], args := [d1, d2] }
  | _ => none }
def PowerTextsWrongFalsely : Prop := powerTextsRow.holds Try.pinned (OpenSpec.ofChange powerTextsWrong)

/-- 'gradinelaw08.PowerTells': WHATEVER THE INPUT: true; the input reads as it did. -/
def powerTellsSpec : ChangeSpec := { name := "powerTells", fn := fun _ => fun
  | [d1, d2] => { results := [.lit (.bool true)], args := [d1, d2] }
  | _ => none }
def powerTellsRow : OpenClaim := { program := "ytldcgclbgbhffaa", sum := "c64d272e94c96cedfd5dd4a25e2de44e3611a4f7fb27cbae2a98b0d539b97a52", func := "gradine/gradinelaw08.PowerTells", spec := "powerTells", recurses := true, apart := false }
def PowerTellsSaid : Prop := powerTellsRow.holds Try.pinned (OpenSpec.ofChange powerTellsSpec)

/-- ITS FALSE NEIGHBOUR: 'it returns false'. Refute it at one input. -/
def powerTellsWrong : ChangeSpec := { name := "powerTells", fn := fun _ => fun
  | [d1, d2] => { results := [.lit (.bool false)], args := [d1, d2] }
  | _ => none }
def PowerTellsWrongFalsely : Prop := powerTellsRow.holds Try.pinned (OpenSpec.ofChange powerTellsWrong)

/-- 'gradinelaw08.PowerAdds': WHATEVER THE INPUT: true; the input reads as it did. -/
def powerAddsSpec : ChangeSpec := { name := "powerAdds", fn := fun _ => fun
  | [d1, d2, d3] => { results := [.lit (.bool true)], args := [d1, d2, d3] }
  | _ => none }
def powerAddsRow : OpenClaim := { program := "ytldcgclbgbhffaa", sum := "c64d272e94c96cedfd5dd4a25e2de44e3611a4f7fb27cbae2a98b0d539b97a52", func := "gradine/gradinelaw08.PowerAdds", spec := "powerAdds", recurses := true, apart := false }
def PowerAddsSaid : Prop := powerAddsRow.holds Try.pinned (OpenSpec.ofChange powerAddsSpec)

/-- ITS FALSE NEIGHBOUR: 'it returns false'. Refute it at one input. -/
def powerAddsWrong : ChangeSpec := { name := "powerAdds", fn := fun _ => fun
  | [d1, d2, d3] => { results := [.lit (.bool false)], args := [d1, d2, d3] }
  | _ => none }
def PowerAddsWrongFalsely : Prop := powerAddsRow.holds Try.pinned (OpenSpec.ofChange powerAddsWrong)

/-- 'gradinelaw08.PowerBack': WHATEVER THE INPUT: true; the input reads as it did. -/
def powerBackSpec : ChangeSpec := { name := "powerBack", fn := fun _ => fun
  | [d] => { results := [.lit (.bool true)], args := [d] }
  | _ => none }
def powerBackRow : OpenClaim := { program := "ytldcgclbgbhffaa", sum := "c64d272e94c96cedfd5dd4a25e2de44e3611a4f7fb27cbae2a98b0d539b97a52", func := "gradine/gradinelaw08.PowerBack", spec := "powerBack", recurses := true, apart := false }
def PowerBackSaid : Prop := powerBackRow.holds Try.pinned (OpenSpec.ofChange powerBackSpec)

/-- ITS FALSE NEIGHBOUR: 'it returns false'. Refute it at one input. -/
def powerBackWrong : ChangeSpec := { name := "powerBack", fn := fun _ => fun
  | [d] => { results := [.lit (.bool false)], args := [d] }
  | _ => none }
def PowerBackWrongFalsely : Prop := powerBackRow.holds Try.pinned (OpenSpec.ofChange powerBackWrong)

/- THE SECOND FORM. 'bulk': how many values and letters a reading holds, each counted each time it is reached (what is shared counts as often as it is met; a slice's spare places count too). A statement '..UptoSaid' is the law's where the arguments, and the package variables that the reading takes, are together of bulk at most 1048576: NARROWER than '..Said'. Prove '..Said' where nothing that the law and all that it calls make is longer than what came in: it says more and counts as full. Else prove '..UptoSaid'. A law counts once. -/
mutual
def uptoBulk {H : Type} : DataW H → Nat
  | .lit (.string bytes) => bytes.length + 1
  | .lit _ => 1
  | .nil => 1
  | .ptr d => uptoBulk d + 1
  | .slice elems spare => uptoBulkAll elems + uptoBulkAll spare + 1
  | .agg parts => uptoBulkAll parts + 1
  | .iface _ d => uptoBulk d + 1
  | .map entries => uptoBulkEntries entries + 1
  | .held _ => 1
def uptoBulkAll {H : Type} : List (DataW H) → Nat
  | [] => 0
  | d :: r => uptoBulk d + uptoBulkAll r
def uptoBulkEntries {H : Type} : List (Lit × DataW H) → Nat
  | [] => 0
  | x :: r => uptoBulkEntry x + uptoBulkEntries r
def uptoBulkEntry {H : Type} : Lit × DataW H → Nat
  | (.string bytes, d) => bytes.length + uptoBulk d + 1
  | (_, d) => uptoBulk d + 1
 end
def uptoSmall : (H : Type) → List (DataW H) → Bool := fun _ ds => decide (uptoBulkAll ds ≤ 1048576)
def OpenSpec.upto (s : _root_.Go.ChangeSpec) : _root_.Go.OpenSpec := { _root_.Go.OpenSpec.ofChange s with cond := some uptoSmall }

/-- 'gradinelaw01.LimbProducts', WHERE WHAT IT READS IS OF BULK AT MOST 1048576: true; the input reads as it did. -/
def limbProductsUptoRow : OpenClaim := { program := "ytldcgclbgbhffaa", sum := "c64d272e94c96cedfd5dd4a25e2de44e3611a4f7fb27cbae2a98b0d539b97a52", func := "gradine/gradinelaw01.LimbProducts", spec := "limbProducts", apart := false, narrowed := true }
def LimbProductsUptoSaid : Prop := limbProductsUptoRow.holds Try.pinned (OpenSpec.upto limbProductsSpec)

/-- 'gradinelaw01.LimbAdds', WHERE WHAT IT READS IS OF BULK AT MOST 1048576: true; the input reads as it did. -/
def limbAddsUptoRow : OpenClaim := { program := "ytldcgclbgbhffaa", sum := "c64d272e94c96cedfd5dd4a25e2de44e3611a4f7fb27cbae2a98b0d539b97a52", func := "gradine/gradinelaw01.LimbAdds", spec := "limbAdds", apart := false, narrowed := true }
def LimbAddsUptoSaid : Prop := limbAddsUptoRow.holds Try.pinned (OpenSpec.upto limbAddsSpec)

/-- 'gradinelaw01.LimbBack', WHERE WHAT IT READS IS OF BULK AT MOST 1048576: true; the input reads as it did. -/
def limbBackUptoRow : OpenClaim := { program := "ytldcgclbgbhffaa", sum := "c64d272e94c96cedfd5dd4a25e2de44e3611a4f7fb27cbae2a98b0d539b97a52", func := "gradine/gradinelaw01.LimbBack", spec := "limbBack", apart := false, narrowed := true }
def LimbBackUptoSaid : Prop := limbBackUptoRow.holds Try.pinned (OpenSpec.upto limbBackSpec)

/-- 'gradinelaw02.NatShifts', WHERE WHAT IT READS IS OF BULK AT MOST 1048576: true; the input reads as it did. -/
def natShiftsUptoRow : OpenClaim := { program := "ytldcgclbgbhffaa", sum := "c64d272e94c96cedfd5dd4a25e2de44e3611a4f7fb27cbae2a98b0d539b97a52", func := "gradine/gradinelaw02.NatShifts", spec := "natShifts", apart := false, narrowed := true }
def NatShiftsUptoSaid : Prop := natShiftsUptoRow.holds Try.pinned (OpenSpec.upto natShiftsSpec)

/-- 'gradinelaw02.NatTells', WHERE WHAT IT READS IS OF BULK AT MOST 1048576: true; the input reads as it did. -/
def natTellsUptoRow : OpenClaim := { program := "ytldcgclbgbhffaa", sum := "c64d272e94c96cedfd5dd4a25e2de44e3611a4f7fb27cbae2a98b0d539b97a52", func := "gradine/gradinelaw02.NatTells", spec := "natTells", apart := false, narrowed := true }
def NatTellsUptoSaid : Prop := natTellsUptoRow.holds Try.pinned (OpenSpec.upto natTellsSpec)

/-- 'gradinelaw02.NatRing', WHERE WHAT IT READS IS OF BULK AT MOST 1048576: true; the input reads as it did. -/
def natRingUptoRow : OpenClaim := { program := "ytldcgclbgbhffaa", sum := "c64d272e94c96cedfd5dd4a25e2de44e3611a4f7fb27cbae2a98b0d539b97a52", func := "gradine/gradinelaw02.NatRing", spec := "natRing", apart := false, narrowed := true }
def NatRingUptoSaid : Prop := natRingUptoRow.holds Try.pinned (OpenSpec.upto natRingSpec)

/-- 'gradinelaw02.NatSums', WHERE WHAT IT READS IS OF BULK AT MOST 1048576: true; the input reads as it did. -/
def natSumsUptoRow : OpenClaim := { program := "ytldcgclbgbhffaa", sum := "c64d272e94c96cedfd5dd4a25e2de44e3611a4f7fb27cbae2a98b0d539b97a52", func := "gradine/gradinelaw02.NatSums", spec := "natSums", apart := false, narrowed := true }
def NatSumsUptoSaid : Prop := natSumsUptoRow.holds Try.pinned (OpenSpec.upto natSumsSpec)

/-- 'gradinelaw03.ProdPowers', WHERE WHAT IT READS IS OF BULK AT MOST 1048576: true; the input reads as it did. -/
def prodPowersUptoRow : OpenClaim := { program := "ytldcgclbgbhffaa", sum := "c64d272e94c96cedfd5dd4a25e2de44e3611a4f7fb27cbae2a98b0d539b97a52", func := "gradine/gradinelaw03.ProdPowers", spec := "prodPowers", recurses := true, apart := false, narrowed := true }
def ProdPowersUptoSaid : Prop := prodPowersUptoRow.holds Try.pinned (OpenSpec.upto prodPowersSpec)

/-- 'gradinelaw03.ProdRing', WHERE WHAT IT READS IS OF BULK AT MOST 1048576: true; the input reads as it did. -/
def prodRingUptoRow : OpenClaim := { program := "ytldcgclbgbhffaa", sum := "c64d272e94c96cedfd5dd4a25e2de44e3611a4f7fb27cbae2a98b0d539b97a52", func := "gradine/gradinelaw03.ProdRing", spec := "prodRing", recurses := true, apart := false, narrowed := true }
def ProdRingUptoSaid : Prop := prodRingUptoRow.holds Try.pinned (OpenSpec.upto prodRingSpec)

/-- 'gradinelaw03.ProdAdds', WHERE WHAT IT READS IS OF BULK AT MOST 1048576: true; the input reads as it did. -/
def prodAddsUptoRow : OpenClaim := { program := "ytldcgclbgbhffaa", sum := "c64d272e94c96cedfd5dd4a25e2de44e3611a4f7fb27cbae2a98b0d539b97a52", func := "gradine/gradinelaw03.ProdAdds", spec := "prodAdds", recurses := true, apart := false, narrowed := true }
def ProdAddsUptoSaid : Prop := prodAddsUptoRow.holds Try.pinned (OpenSpec.upto prodAddsSpec)

/-- 'gradinelaw06.DigitTells', WHERE WHAT IT READS IS OF BULK AT MOST 1048576: true; the input reads as it did. -/
def digitTellsUptoRow : OpenClaim := { program := "ytldcgclbgbhffaa", sum := "c64d272e94c96cedfd5dd4a25e2de44e3611a4f7fb27cbae2a98b0d539b97a52", func := "gradine/gradinelaw06.DigitTells", spec := "digitTells", apart := false, narrowed := true }
def DigitTellsUptoSaid : Prop := digitTellsUptoRow.holds Try.pinned (OpenSpec.upto digitTellsSpec)

/-- 'gradinelaw06.DigitBack', WHERE WHAT IT READS IS OF BULK AT MOST 1048576: true; the input reads as it did. -/
def digitBackUptoRow : OpenClaim := { program := "ytldcgclbgbhffaa", sum := "c64d272e94c96cedfd5dd4a25e2de44e3611a4f7fb27cbae2a98b0d539b97a52", func := "gradine/gradinelaw06.DigitBack", spec := "digitBack", apart := false, narrowed := true }
def DigitBackUptoSaid : Prop := digitBackUptoRow.holds Try.pinned (OpenSpec.upto digitBackSpec)

/-- 'gradinelaw06.DigitOrder', WHERE WHAT IT READS IS OF BULK AT MOST 1048576: true; the input reads as it did. -/
def digitOrderUptoRow : OpenClaim := { program := "ytldcgclbgbhffaa", sum := "c64d272e94c96cedfd5dd4a25e2de44e3611a4f7fb27cbae2a98b0d539b97a52", func := "gradine/gradinelaw06.DigitOrder", spec := "digitOrder", apart := false, narrowed := true }
def DigitOrderUptoSaid : Prop := digitOrderUptoRow.holds Try.pinned (OpenSpec.upto digitOrderSpec)

/-- 'gradinelaw03.ProdTells', WHERE WHAT IT READS IS OF BULK AT MOST 1048576: true; the input reads as it did. -/
def prodTellsUptoRow : OpenClaim := { program := "ytldcgclbgbhffaa", sum := "c64d272e94c96cedfd5dd4a25e2de44e3611a4f7fb27cbae2a98b0d539b97a52", func := "gradine/gradinelaw03.ProdTells", spec := "prodTells", recurses := true, apart := false, narrowed := true }
def ProdTellsUptoSaid : Prop := prodTellsUptoRow.holds Try.pinned (OpenSpec.upto prodTellsSpec)

/-- 'gradinelaw03.ProdBits', WHERE WHAT IT READS IS OF BULK AT MOST 1048576: true; the input reads as it did. -/
def prodBitsUptoRow : OpenClaim := { program := "ytldcgclbgbhffaa", sum := "c64d272e94c96cedfd5dd4a25e2de44e3611a4f7fb27cbae2a98b0d539b97a52", func := "gradine/gradinelaw03.ProdBits", spec := "prodBits", recurses := true, apart := false, narrowed := true }
def ProdBitsUptoSaid : Prop := prodBitsUptoRow.holds Try.pinned (OpenSpec.upto prodBitsSpec)

/-- 'gradinelaw04.QuotTells', WHERE WHAT IT READS IS OF BULK AT MOST 1048576: true; the input reads as it did. -/
def quotTellsUptoRow : OpenClaim := { program := "ytldcgclbgbhffaa", sum := "c64d272e94c96cedfd5dd4a25e2de44e3611a4f7fb27cbae2a98b0d539b97a52", func := "gradine/gradinelaw04.QuotTells", spec := "quotTells", apart := false, narrowed := true }
def QuotTellsUptoSaid : Prop := quotTellsUptoRow.holds Try.pinned (OpenSpec.upto quotTellsSpec)

/-- 'gradinelaw05.GcdGreatest', WHERE WHAT IT READS IS OF BULK AT MOST 1048576: true; the input reads as it did. -/
def gcdGreatestUptoRow : OpenClaim := { program := "ytldcgclbgbhffaa", sum := "c64d272e94c96cedfd5dd4a25e2de44e3611a4f7fb27cbae2a98b0d539b97a52", func := "gradine/gradinelaw05.GcdGreatest", spec := "gcdGreatest", apart := false, narrowed := true }
def GcdGreatestUptoSaid : Prop := gcdGreatestUptoRow.holds Try.pinned (OpenSpec.upto gcdGreatestSpec)

/-- 'gradinelaw04.QuotBack', WHERE WHAT IT READS IS OF BULK AT MOST 1048576: true; the input reads as it did. -/
def quotBackUptoRow : OpenClaim := { program := "ytldcgclbgbhffaa", sum := "c64d272e94c96cedfd5dd4a25e2de44e3611a4f7fb27cbae2a98b0d539b97a52", func := "gradine/gradinelaw04.QuotBack", spec := "quotBack", recurses := true, apart := false, narrowed := true }
def QuotBackUptoSaid : Prop := quotBackUptoRow.holds Try.pinned (OpenSpec.upto quotBackSpec)

/-- 'gradinelaw04.QuotRoots', WHERE WHAT IT READS IS OF BULK AT MOST 1048576: true; the input reads as it did. -/
def quotRootsUptoRow : OpenClaim := { program := "ytldcgclbgbhffaa", sum := "c64d272e94c96cedfd5dd4a25e2de44e3611a4f7fb27cbae2a98b0d539b97a52", func := "gradine/gradinelaw04.QuotRoots", spec := "quotRoots", recurses := true, apart := false, narrowed := true }
def QuotRootsUptoSaid : Prop := quotRootsUptoRow.holds Try.pinned (OpenSpec.upto quotRootsSpec)

/-- 'gradinelaw05.GcdTells', WHERE WHAT IT READS IS OF BULK AT MOST 1048576: true; the input reads as it did. -/
def gcdTellsUptoRow : OpenClaim := { program := "ytldcgclbgbhffaa", sum := "c64d272e94c96cedfd5dd4a25e2de44e3611a4f7fb27cbae2a98b0d539b97a52", func := "gradine/gradinelaw05.GcdTells", spec := "gcdTells", recurses := true, apart := false, narrowed := true }
def GcdTellsUptoSaid : Prop := gcdTellsUptoRow.holds Try.pinned (OpenSpec.upto gcdTellsSpec)

/-- 'gradinelaw05.GcdProduct', WHERE WHAT IT READS IS OF BULK AT MOST 1048576: true; the input reads as it did. -/
def gcdProductUptoRow : OpenClaim := { program := "ytldcgclbgbhffaa", sum := "c64d272e94c96cedfd5dd4a25e2de44e3611a4f7fb27cbae2a98b0d539b97a52", func := "gradine/gradinelaw05.GcdProduct", spec := "gcdProduct", recurses := true, apart := false, narrowed := true }
def GcdProductUptoSaid : Prop := gcdProductUptoRow.holds Try.pinned (OpenSpec.upto gcdProductSpec)

/-- 'gradinelaw07.RatMakes', WHERE WHAT IT READS IS OF BULK AT MOST 1048576: true; the input reads as it did. -/
def ratMakesUptoRow : OpenClaim := { program := "ytldcgclbgbhffaa", sum := "c64d272e94c96cedfd5dd4a25e2de44e3611a4f7fb27cbae2a98b0d539b97a52", func := "gradine/gradinelaw07.RatMakes", spec := "ratMakes", recurses := true, apart := false, narrowed := true }
def RatMakesUptoSaid : Prop := ratMakesUptoRow.holds Try.pinned (OpenSpec.upto ratMakesSpec)

/-- 'gradinelaw07.RatTells', WHERE WHAT IT READS IS OF BULK AT MOST 1048576: true; the input reads as it did. -/
def ratTellsUptoRow : OpenClaim := { program := "ytldcgclbgbhffaa", sum := "c64d272e94c96cedfd5dd4a25e2de44e3611a4f7fb27cbae2a98b0d539b97a52", func := "gradine/gradinelaw07.RatTells", spec := "ratTells", recurses := true, apart := false, narrowed := true }
def RatTellsUptoSaid : Prop := ratTellsUptoRow.holds Try.pinned (OpenSpec.upto ratTellsSpec)

/-- 'gradinelaw07.RatOrder', WHERE WHAT IT READS IS OF BULK AT MOST 1048576: true; the input reads as it did. -/
def ratOrderUptoRow : OpenClaim := { program := "ytldcgclbgbhffaa", sum := "c64d272e94c96cedfd5dd4a25e2de44e3611a4f7fb27cbae2a98b0d539b97a52", func := "gradine/gradinelaw07.RatOrder", spec := "ratOrder", recurses := true, apart := false, narrowed := true }
def RatOrderUptoSaid : Prop := ratOrderUptoRow.holds Try.pinned (OpenSpec.upto ratOrderSpec)

/-- 'gradinelaw07.RatInts', WHERE WHAT IT READS IS OF BULK AT MOST 1048576: true; the input reads as it did. -/
def ratIntsUptoRow : OpenClaim := { program := "ytldcgclbgbhffaa", sum := "c64d272e94c96cedfd5dd4a25e2de44e3611a4f7fb27cbae2a98b0d539b97a52", func := "gradine/gradinelaw07.RatInts", spec := "ratInts", recurses := true, apart := false, narrowed := true }
def RatIntsUptoSaid : Prop := ratIntsUptoRow.holds Try.pinned (OpenSpec.upto ratIntsSpec)

/-- 'gradinelaw07.RatField', WHERE WHAT IT READS IS OF BULK AT MOST 1048576: true; the input reads as it did. -/
def ratFieldUptoRow : OpenClaim := { program := "ytldcgclbgbhffaa", sum := "c64d272e94c96cedfd5dd4a25e2de44e3611a4f7fb27cbae2a98b0d539b97a52", func := "gradine/gradinelaw07.RatField", spec := "ratField", recurses := true, apart := false, narrowed := true }
def RatFieldUptoSaid : Prop := ratFieldUptoRow.holds Try.pinned (OpenSpec.upto ratFieldSpec)

/-- 'gradinelaw08.PowerTexts', WHERE WHAT IT READS IS OF BULK AT MOST 1048576: true; the input reads as it did. -/
def powerTextsUptoRow : OpenClaim := { program := "ytldcgclbgbhffaa", sum := "c64d272e94c96cedfd5dd4a25e2de44e3611a4f7fb27cbae2a98b0d539b97a52", func := "gradine/gradinelaw08.PowerTexts", spec := "powerTexts", recurses := true, apart := false, narrowed := true }
def PowerTextsUptoSaid : Prop := powerTextsUptoRow.holds Try.pinned (OpenSpec.upto powerTextsSpec)

/-- 'gradinelaw08.PowerTells', WHERE WHAT IT READS IS OF BULK AT MOST 1048576: true; the input reads as it did. -/
def powerTellsUptoRow : OpenClaim := { program := "ytldcgclbgbhffaa", sum := "c64d272e94c96cedfd5dd4a25e2de44e3611a4f7fb27cbae2a98b0d539b97a52", func := "gradine/gradinelaw08.PowerTells", spec := "powerTells", recurses := true, apart := false, narrowed := true }
def PowerTellsUptoSaid : Prop := powerTellsUptoRow.holds Try.pinned (OpenSpec.upto powerTellsSpec)

/-- 'gradinelaw08.PowerAdds', WHERE WHAT IT READS IS OF BULK AT MOST 1048576: true; the input reads as it did. -/
def powerAddsUptoRow : OpenClaim := { program := "ytldcgclbgbhffaa", sum := "c64d272e94c96cedfd5dd4a25e2de44e3611a4f7fb27cbae2a98b0d539b97a52", func := "gradine/gradinelaw08.PowerAdds", spec := "powerAdds", recurses := true, apart := false, narrowed := true }
def PowerAddsUptoSaid : Prop := powerAddsUptoRow.holds Try.pinned (OpenSpec.upto powerAddsSpec)

/-- 'gradinelaw08.PowerBack', WHERE WHAT IT READS IS OF BULK AT MOST 1048576: true; the input reads as it did. -/
def powerBackUptoRow : OpenClaim := { program := "ytldcgclbgbhffaa", sum := "c64d272e94c96cedfd5dd4a25e2de44e3611a4f7fb27cbae2a98b0d539b97a52", func := "gradine/gradinelaw08.PowerBack", spec := "powerBack", recurses := true, apart := false, narrowed := true }
def PowerBackUptoSaid : Prop := powerBackUptoRow.holds Try.pinned (OpenSpec.upto powerBackSpec)

end Rows
end Go.Proofs.Ytldcgclbgbhffaa
