/-
  No cell of these rows narrows 'for every input' (looked for: loops, veiled, ifaces, maps, wideKeys, modest, calm, conditions, laid).
  DERIVED. THE GIVEN ROWS OF THIS SEAT. 20 by the template 'for every input the law returns true; each argument reads behind the call as it read before'; 0 by the template 'total and deterministic' (their statements: YtjokcbjahidckaaGreatTotals.lean).
  GIVEN WITH THE SEED: the statements are not yours to turn. If you find one false, say at which input.
  Laid BY PROGRAM, IN A SANDBOX (cutbox-rows.mjs): the forced cells as the released guide's own fill.sh prints them over the translation b61e59eca70fea10… (all of the seat's roots in one cut). By AI agents, Wed Nov 11 2026. No macro, syntax, notation, axiom, sorry.
-/
import Derived.Test.YtjokcbjahidckaaGreatChecked
import GoSem.Claim
import GoSem.ClaimJoined
import GoSem.ClaimMapViews
import Derived.JoinedTies
import Derived.KernelRfl
namespace Go.Proofs.YtjokcbjahidckaaGreat
/- THE CELL 'sum', in the pinned program and in every row, IS THE sha256 OF THE DUMP (.gsa) THAT YtjokcbjahidckaaGreatProg.lean LOADS. Nothing in Lean hashes anything: it is a label: what it is worth is what the hold of that sum in a sandbox is worth. -/
noncomputable def Tryz.pinned : Pinned := { name := "ytjokcbjahidckaagreat", sum := "b61e59eca70fea10493bfceedb05cc1e41ec30722c2fcc900d2a35b221de5585", checked := Tryz.checked }
namespace Rows
def none {H : Type} : Left H := { results := [], args := [] }

/-- 'quarrylaw08.CurveOne': WHATEVER THE INPUT: true; the input reads as it did. -/
def curveOneSpec : ChangeSpec := { name := "curveOne", fn := fun _ => fun
  | [d] => { results := [.lit (.bool true)], args := [d] }
  | _ => none }
def curveOneRow : OpenClaim := { program := "ytjokcbjahidckaagreat", sum := "b61e59eca70fea10493bfceedb05cc1e41ec30722c2fcc900d2a35b221de5585", func := "quarry/quarrylaw08.CurveOne", spec := "curveOne", inPlace := ["math/bits.Add64", "math/bits.Sub64"], unfollowed := true, recurses := true, named := ["math/bits.divideError", "math/bits.overflowError"], apart := false }
def CurveOneSaid : Prop := curveOneRow.holds Tryz.pinned (OpenSpec.ofChange curveOneSpec)

/-- ITS FALSE NEIGHBOUR: 'it returns false'. Refute it at one input. -/
def curveOneWrong : ChangeSpec := { name := "curveOne", fn := fun _ => fun
  | [d] => { results := [.lit (.bool false)], args := [d] }
  | _ => none }
def CurveOneWrongFalsely : Prop := curveOneRow.holds Tryz.pinned (OpenSpec.ofChange curveOneWrong)

/-- 'quarrylaw08.CurveGroup': WHATEVER THE INPUT: true; the input reads as it did. -/
def curveGroupSpec : ChangeSpec := { name := "curveGroup", fn := fun _ => fun
  | [d] => { results := [.lit (.bool true)], args := [d] }
  | _ => none }
def curveGroupRow : OpenClaim := { program := "ytjokcbjahidckaagreat", sum := "b61e59eca70fea10493bfceedb05cc1e41ec30722c2fcc900d2a35b221de5585", func := "quarry/quarrylaw08.CurveGroup", spec := "curveGroup", inPlace := ["math/bits.Add64", "math/bits.Sub64"], unfollowed := true, recurses := true, named := ["math/bits.divideError", "math/bits.overflowError"], apart := false }
def CurveGroupSaid : Prop := curveGroupRow.holds Tryz.pinned (OpenSpec.ofChange curveGroupSpec)

/-- ITS FALSE NEIGHBOUR: 'it returns false'. Refute it at one input. -/
def curveGroupWrong : ChangeSpec := { name := "curveGroup", fn := fun _ => fun
  | [d] => { results := [.lit (.bool false)], args := [d] }
  | _ => none }
def CurveGroupWrongFalsely : Prop := curveGroupRow.holds Tryz.pinned (OpenSpec.ofChange curveGroupWrong)

/-- 'quarrylaw08.CurveTwo': WHATEVER THE INPUT: true; the input reads as it did. -/
def curveTwoSpec : ChangeSpec := { name := "curveTwo", fn := fun _ => fun
  | [d] => { results := [.lit (.bool true)], args := [d] }
  | _ => none }
def curveTwoRow : OpenClaim := { program := "ytjokcbjahidckaagreat", sum := "b61e59eca70fea10493bfceedb05cc1e41ec30722c2fcc900d2a35b221de5585", func := "quarry/quarrylaw08.CurveTwo", spec := "curveTwo", inPlace := ["math/bits.Add64", "math/bits.Sub64"], unfollowed := true, recurses := true, named := ["math/bits.divideError", "math/bits.overflowError"], apart := false }
def CurveTwoSaid : Prop := curveTwoRow.holds Tryz.pinned (OpenSpec.ofChange curveTwoSpec)

/-- ITS FALSE NEIGHBOUR: 'it returns false'. Refute it at one input. -/
def curveTwoWrong : ChangeSpec := { name := "curveTwo", fn := fun _ => fun
  | [d] => { results := [.lit (.bool false)], args := [d] }
  | _ => none }
def CurveTwoWrongFalsely : Prop := curveTwoRow.holds Tryz.pinned (OpenSpec.ofChange curveTwoWrong)

/-- 'quarrylaw08.CurvePair': WHATEVER THE INPUT: true; the input reads as it did. -/
def curvePairSpec : ChangeSpec := { name := "curvePair", fn := fun _ => fun
  | [d] => { results := [.lit (.bool true)], args := [d] }
  | _ => none }
def curvePairRow : OpenClaim := { program := "ytjokcbjahidckaagreat", sum := "b61e59eca70fea10493bfceedb05cc1e41ec30722c2fcc900d2a35b221de5585", func := "quarry/quarrylaw08.CurvePair", spec := "curvePair", inPlace := ["math/bits.Add64", "math/bits.Sub64"], unfollowed := true, recurses := true, named := ["math/bits.divideError", "math/bits.overflowError"], apart := false }
def CurvePairSaid : Prop := curvePairRow.holds Tryz.pinned (OpenSpec.ofChange curvePairSpec)

/-- ITS FALSE NEIGHBOUR: 'it returns false'. Refute it at one input. -/
def curvePairWrong : ChangeSpec := { name := "curvePair", fn := fun _ => fun
  | [d] => { results := [.lit (.bool false)], args := [d] }
  | _ => none }
def CurvePairWrongFalsely : Prop := curvePairRow.holds Tryz.pinned (OpenSpec.ofChange curvePairWrong)

/-- 'quarrylaw08.CurveReads': WHATEVER THE INPUT: true; the input reads as it did. -/
def curveReadsSpec : ChangeSpec := { name := "curveReads", fn := fun _ => fun
  | [d1, d2, d3] => { results := [.lit (.bool true)], args := [d1, d2, d3] }
  | _ => none }
def curveReadsRow : OpenClaim := { program := "ytjokcbjahidckaagreat", sum := "b61e59eca70fea10493bfceedb05cc1e41ec30722c2fcc900d2a35b221de5585", func := "quarry/quarrylaw08.CurveReads", spec := "curveReads", inPlace := ["math/bits.Add64", "math/bits.Sub64"], unfollowed := true, recurses := true, named := ["math/bits.divideError", "math/bits.overflowError"], apart := false }
def CurveReadsSaid : Prop := curveReadsRow.holds Tryz.pinned (OpenSpec.ofChange curveReadsSpec)

/-- ITS FALSE NEIGHBOUR: 'it returns false'. Refute it at one input. -/
def curveReadsWrong : ChangeSpec := { name := "curveReads", fn := fun _ => fun
  | [d1, d2, d3] => { results := [.lit (.bool false)], args := [d1, d2, d3] }
  | _ => none }
def CurveReadsWrongFalsely : Prop := curveReadsRow.holds Tryz.pinned (OpenSpec.ofChange curveReadsWrong)

/-- 'quarrylaw09.PairSums': WHATEVER THE INPUT: true; the input reads as it did. -/
def pairSumsSpec : ChangeSpec := { name := "pairSums", fn := fun _ => fun
  | [d] => { results := [.lit (.bool true)], args := [d] }
  | _ => none }
def pairSumsRow : OpenClaim := { program := "ytjokcbjahidckaagreat", sum := "b61e59eca70fea10493bfceedb05cc1e41ec30722c2fcc900d2a35b221de5585", func := "quarry/quarrylaw09.PairSums", spec := "pairSums", inPlace := ["math/bits.Add64", "math/bits.Sub64"], unfollowed := true, recurses := true, named := ["math/bits.divideError", "math/bits.overflowError"], apart := false }
def PairSumsSaid : Prop := pairSumsRow.holds Tryz.pinned (OpenSpec.ofChange pairSumsSpec)

/-- ITS FALSE NEIGHBOUR: 'it returns false'. Refute it at one input. -/
def pairSumsWrong : ChangeSpec := { name := "pairSums", fn := fun _ => fun
  | [d] => { results := [.lit (.bool false)], args := [d] }
  | _ => none }
def PairSumsWrongFalsely : Prop := pairSumsRow.holds Tryz.pinned (OpenSpec.ofChange pairSumsWrong)

/-- 'quarrylaw09.PairErrors': WHATEVER THE INPUT: true; the input reads as it did. -/
def pairErrorsSpec : ChangeSpec := { name := "pairErrors", fn := fun _ => fun
  | [d] => { results := [.lit (.bool true)], args := [d] }
  | _ => none }
def pairErrorsRow : OpenClaim := { program := "ytjokcbjahidckaagreat", sum := "b61e59eca70fea10493bfceedb05cc1e41ec30722c2fcc900d2a35b221de5585", func := "quarry/quarrylaw09.PairErrors", spec := "pairErrors", inPlace := ["math/bits.Add64", "math/bits.Sub64"], unfollowed := true, recurses := true, named := ["math/bits.divideError", "math/bits.overflowError"], apart := false }
def PairErrorsSaid : Prop := pairErrorsRow.holds Tryz.pinned (OpenSpec.ofChange pairErrorsSpec)

/-- ITS FALSE NEIGHBOUR: 'it returns false'. Refute it at one input. -/
def pairErrorsWrong : ChangeSpec := { name := "pairErrors", fn := fun _ => fun
  | [d] => { results := [.lit (.bool false)], args := [d] }
  | _ => none }
def PairErrorsWrongFalsely : Prop := pairErrorsRow.holds Tryz.pinned (OpenSpec.ofChange pairErrorsWrong)

/-- 'quarrylaw09.PairTurns': WHATEVER THE INPUT: true; the input reads as it did. -/
def pairTurnsSpec : ChangeSpec := { name := "pairTurns", fn := fun _ => fun
  | [d] => { results := [.lit (.bool true)], args := [d] }
  | _ => none }
def pairTurnsRow : OpenClaim := { program := "ytjokcbjahidckaagreat", sum := "b61e59eca70fea10493bfceedb05cc1e41ec30722c2fcc900d2a35b221de5585", func := "quarry/quarrylaw09.PairTurns", spec := "pairTurns", inPlace := ["math/bits.Add64", "math/bits.Sub64"], unfollowed := true, recurses := true, named := ["math/bits.divideError", "math/bits.overflowError"], apart := false }
def PairTurnsSaid : Prop := pairTurnsRow.holds Tryz.pinned (OpenSpec.ofChange pairTurnsSpec)

/-- ITS FALSE NEIGHBOUR: 'it returns false'. Refute it at one input. -/
def pairTurnsWrong : ChangeSpec := { name := "pairTurns", fn := fun _ => fun
  | [d] => { results := [.lit (.bool false)], args := [d] }
  | _ => none }
def PairTurnsWrongFalsely : Prop := pairTurnsRow.holds Tryz.pinned (OpenSpec.ofChange pairTurnsWrong)

/-- 'quarrylaw08.CurvePacks': WHATEVER THE INPUT: true; the input reads as it did. -/
def curvePacksSpec : ChangeSpec := { name := "curvePacks", fn := fun _ => fun
  | [d1, d2, d3] => { results := [.lit (.bool true)], args := [d1, d2, d3] }
  | _ => none }
def curvePacksRow : OpenClaim := { program := "ytjokcbjahidckaagreat", sum := "b61e59eca70fea10493bfceedb05cc1e41ec30722c2fcc900d2a35b221de5585", func := "quarry/quarrylaw08.CurvePacks", spec := "curvePacks", inPlace := ["math/bits.Add64", "math/bits.Sub64"], unfollowed := true, recurses := true, named := ["math/bits.divideError", "math/bits.overflowError"], apart := false }
def CurvePacksSaid : Prop := curvePacksRow.holds Tryz.pinned (OpenSpec.ofChange curvePacksSpec)

/-- ITS FALSE NEIGHBOUR: 'it returns false'. Refute it at one input. -/
def curvePacksWrong : ChangeSpec := { name := "curvePacks", fn := fun _ => fun
  | [d1, d2, d3] => { results := [.lit (.bool false)], args := [d1, d2, d3] }
  | _ => none }
def CurvePacksWrongFalsely : Prop := curvePacksRow.holds Tryz.pinned (OpenSpec.ofChange curvePacksWrong)

/-- 'quarrylaw08.CurveBack': WHATEVER THE INPUT: true; the input reads as it did. -/
def curveBackSpec : ChangeSpec := { name := "curveBack", fn := fun _ => fun
  | [d1, d2] => { results := [.lit (.bool true)], args := [d1, d2] }
  | _ => none }
def curveBackRow : OpenClaim := { program := "ytjokcbjahidckaagreat", sum := "b61e59eca70fea10493bfceedb05cc1e41ec30722c2fcc900d2a35b221de5585", func := "quarry/quarrylaw08.CurveBack", spec := "curveBack", inPlace := ["math/bits.Add64", "math/bits.Sub64"], unfollowed := true, recurses := true, named := ["math/bits.divideError", "math/bits.overflowError"], apart := false }
def CurveBackSaid : Prop := curveBackRow.holds Tryz.pinned (OpenSpec.ofChange curveBackSpec)

/-- ITS FALSE NEIGHBOUR: 'it returns false'. Refute it at one input. -/
def curveBackWrong : ChangeSpec := { name := "curveBack", fn := fun _ => fun
  | [d1, d2] => { results := [.lit (.bool false)], args := [d1, d2] }
  | _ => none }
def CurveBackWrongFalsely : Prop := curveBackRow.holds Tryz.pinned (OpenSpec.ofChange curveBackWrong)

/-- 'quarrylaw10.KzgLines': WHATEVER THE INPUT: true; the input reads as it did. -/
def kzgLinesSpec : ChangeSpec := { name := "kzgLines", fn := fun _ => fun
  | [d] => { results := [.lit (.bool true)], args := [d] }
  | _ => none }
def kzgLinesRow : OpenClaim := { program := "ytjokcbjahidckaagreat", sum := "b61e59eca70fea10493bfceedb05cc1e41ec30722c2fcc900d2a35b221de5585", func := "quarry/quarrylaw10.KzgLines", spec := "kzgLines", inPlace := ["math/bits.Add64", "math/bits.Sub64"], unfollowed := true, recurses := true, named := ["math/bits.divideError", "math/bits.overflowError"], apart := false }
def KzgLinesSaid : Prop := kzgLinesRow.holds Tryz.pinned (OpenSpec.ofChange kzgLinesSpec)

/-- ITS FALSE NEIGHBOUR: 'it returns false'. Refute it at one input. -/
def kzgLinesWrong : ChangeSpec := { name := "kzgLines", fn := fun _ => fun
  | [d] => { results := [.lit (.bool false)], args := [d] }
  | _ => none }
def KzgLinesWrongFalsely : Prop := kzgLinesRow.holds Tryz.pinned (OpenSpec.ofChange kzgLinesWrong)

/-- 'quarrylaw10.KzgVerify': WHATEVER THE INPUT: true; the input reads as it did. -/
def kzgVerifySpec : ChangeSpec := { name := "kzgVerify", fn := fun _ => fun
  | [d] => { results := [.lit (.bool true)], args := [d] }
  | _ => none }
def kzgVerifyRow : OpenClaim := { program := "ytjokcbjahidckaagreat", sum := "b61e59eca70fea10493bfceedb05cc1e41ec30722c2fcc900d2a35b221de5585", func := "quarry/quarrylaw10.KzgVerify", spec := "kzgVerify", inPlace := ["math/bits.Add64", "math/bits.Sub64"], unfollowed := true, recurses := true, named := ["math/bits.divideError", "math/bits.overflowError"], apart := false }
def KzgVerifySaid : Prop := kzgVerifyRow.holds Tryz.pinned (OpenSpec.ofChange kzgVerifySpec)

/-- ITS FALSE NEIGHBOUR: 'it returns false'. Refute it at one input. -/
def kzgVerifyWrong : ChangeSpec := { name := "kzgVerify", fn := fun _ => fun
  | [d] => { results := [.lit (.bool false)], args := [d] }
  | _ => none }
def KzgVerifyWrongFalsely : Prop := kzgVerifyRow.holds Tryz.pinned (OpenSpec.ofChange kzgVerifyWrong)

/-- 'quarrylaw10.KzgHash': WHATEVER THE INPUT: true; the input reads as it did. -/
def kzgHashSpec : ChangeSpec := { name := "kzgHash", fn := fun _ => fun
  | [d] => { results := [.lit (.bool true)], args := [d] }
  | _ => none }
def kzgHashRow : OpenClaim := { program := "ytjokcbjahidckaagreat", sum := "b61e59eca70fea10493bfceedb05cc1e41ec30722c2fcc900d2a35b221de5585", func := "quarry/quarrylaw10.KzgHash", spec := "kzgHash", inPlace := ["math/bits.Add64", "math/bits.Sub64"], unfollowed := true, recurses := true, named := ["math/bits.divideError", "math/bits.overflowError"], apart := false }
def KzgHashSaid : Prop := kzgHashRow.holds Tryz.pinned (OpenSpec.ofChange kzgHashSpec)

/-- ITS FALSE NEIGHBOUR: 'it returns false'. Refute it at one input. -/
def kzgHashWrong : ChangeSpec := { name := "kzgHash", fn := fun _ => fun
  | [d] => { results := [.lit (.bool false)], args := [d] }
  | _ => none }
def KzgHashWrongFalsely : Prop := kzgHashRow.holds Tryz.pinned (OpenSpec.ofChange kzgHashWrong)

/-- 'quarrylaw10.KzgOwn': WHATEVER THE INPUT: true; the input reads as it did. -/
def kzgOwnSpec : ChangeSpec := { name := "kzgOwn", fn := fun _ => fun
  | [d] => { results := [.lit (.bool true)], args := [d] }
  | _ => none }
def kzgOwnRow : OpenClaim := { program := "ytjokcbjahidckaagreat", sum := "b61e59eca70fea10493bfceedb05cc1e41ec30722c2fcc900d2a35b221de5585", func := "quarry/quarrylaw10.KzgOwn", spec := "kzgOwn", inPlace := ["math/bits.Add64", "math/bits.Sub64"], unfollowed := true, recurses := true, named := ["math/bits.divideError", "math/bits.overflowError"], apart := false }
def KzgOwnSaid : Prop := kzgOwnRow.holds Tryz.pinned (OpenSpec.ofChange kzgOwnSpec)

/-- ITS FALSE NEIGHBOUR: 'it returns false'. Refute it at one input. -/
def kzgOwnWrong : ChangeSpec := { name := "kzgOwn", fn := fun _ => fun
  | [d] => { results := [.lit (.bool false)], args := [d] }
  | _ => none }
def KzgOwnWrongFalsely : Prop := kzgOwnRow.holds Tryz.pinned (OpenSpec.ofChange kzgOwnWrong)

/-- 'quarrylaw16.PrePrice': WHATEVER THE INPUT: true; the input reads as it did. -/
def prePriceSpec : ChangeSpec := { name := "prePrice", fn := fun _ => fun
  | [d] => { results := [.lit (.bool true)], args := [d] }
  | _ => none }
def prePriceRow : OpenClaim := { program := "ytjokcbjahidckaagreat", sum := "b61e59eca70fea10493bfceedb05cc1e41ec30722c2fcc900d2a35b221de5585", func := "quarry/quarrylaw16.PrePrice", spec := "prePrice", inPlace := ["math/bits.Add64", "math/bits.Sub64"], unfollowed := true, recurses := true, named := ["math/bits.divideError", "math/bits.overflowError"], apart := false }
def PrePriceSaid : Prop := prePriceRow.holds Tryz.pinned (OpenSpec.ofChange prePriceSpec)

/-- ITS FALSE NEIGHBOUR: 'it returns false'. Refute it at one input. -/
def prePriceWrong : ChangeSpec := { name := "prePrice", fn := fun _ => fun
  | [d] => { results := [.lit (.bool false)], args := [d] }
  | _ => none }
def PrePriceWrongFalsely : Prop := prePriceRow.holds Tryz.pinned (OpenSpec.ofChange prePriceWrong)

/-- 'quarrylaw16.PrePower': WHATEVER THE INPUT: true; the input reads as it did. -/
def prePowerSpec : ChangeSpec := { name := "prePower", fn := fun _ => fun
  | [d] => { results := [.lit (.bool true)], args := [d] }
  | _ => none }
def prePowerRow : OpenClaim := { program := "ytjokcbjahidckaagreat", sum := "b61e59eca70fea10493bfceedb05cc1e41ec30722c2fcc900d2a35b221de5585", func := "quarry/quarrylaw16.PrePower", spec := "prePower", inPlace := ["math/bits.Add64", "math/bits.Sub64"], unfollowed := true, recurses := true, named := ["math/bits.divideError", "math/bits.overflowError"], apart := false }
def PrePowerSaid : Prop := prePowerRow.holds Tryz.pinned (OpenSpec.ofChange prePowerSpec)

/-- ITS FALSE NEIGHBOUR: 'it returns false'. Refute it at one input. -/
def prePowerWrong : ChangeSpec := { name := "prePower", fn := fun _ => fun
  | [d] => { results := [.lit (.bool false)], args := [d] }
  | _ => none }
def PrePowerWrongFalsely : Prop := prePowerRow.holds Tryz.pinned (OpenSpec.ofChange prePowerWrong)

/-- 'quarrylaw16.PrePairs': WHATEVER THE INPUT: true; the input reads as it did. -/
def prePairsSpec : ChangeSpec := { name := "prePairs", fn := fun _ => fun
  | [d1, d2, d3] => { results := [.lit (.bool true)], args := [d1, d2, d3] }
  | _ => none }
def prePairsRow : OpenClaim := { program := "ytjokcbjahidckaagreat", sum := "b61e59eca70fea10493bfceedb05cc1e41ec30722c2fcc900d2a35b221de5585", func := "quarry/quarrylaw16.PrePairs", spec := "prePairs", inPlace := ["math/bits.Add64", "math/bits.Sub64"], unfollowed := true, recurses := true, named := ["math/bits.divideError", "math/bits.overflowError"], apart := false }
def PrePairsSaid : Prop := prePairsRow.holds Tryz.pinned (OpenSpec.ofChange prePairsSpec)

/-- ITS FALSE NEIGHBOUR: 'it returns false'. Refute it at one input. -/
def prePairsWrong : ChangeSpec := { name := "prePairs", fn := fun _ => fun
  | [d1, d2, d3] => { results := [.lit (.bool false)], args := [d1, d2, d3] }
  | _ => none }
def PrePairsWrongFalsely : Prop := prePairsRow.holds Tryz.pinned (OpenSpec.ofChange prePairsWrong)

/-- 'quarrylaw16.PreProof': WHATEVER THE INPUT: true; the input reads as it did. -/
def preProofSpec : ChangeSpec := { name := "preProof", fn := fun _ => fun
  | [d] => { results := [.lit (.bool true)], args := [d] }
  | _ => none }
def preProofRow : OpenClaim := { program := "ytjokcbjahidckaagreat", sum := "b61e59eca70fea10493bfceedb05cc1e41ec30722c2fcc900d2a35b221de5585", func := "quarry/quarrylaw16.PreProof", spec := "preProof", inPlace := ["math/bits.Add64", "math/bits.Sub64"], unfollowed := true, recurses := true, named := ["math/bits.divideError", "math/bits.overflowError"], apart := false }
def PreProofSaid : Prop := preProofRow.holds Tryz.pinned (OpenSpec.ofChange preProofSpec)

/-- ITS FALSE NEIGHBOUR: 'it returns false'. Refute it at one input. -/
def preProofWrong : ChangeSpec := { name := "preProof", fn := fun _ => fun
  | [d] => { results := [.lit (.bool false)], args := [d] }
  | _ => none }
def PreProofWrongFalsely : Prop := preProofRow.holds Tryz.pinned (OpenSpec.ofChange preProofWrong)

/-- 'quarrylaw16.PreOwn': WHATEVER THE INPUT: true; the input reads as it did. -/
def preOwnSpec : ChangeSpec := { name := "preOwn", fn := fun _ => fun
  | [d] => { results := [.lit (.bool true)], args := [d] }
  | _ => none }
def preOwnRow : OpenClaim := { program := "ytjokcbjahidckaagreat", sum := "b61e59eca70fea10493bfceedb05cc1e41ec30722c2fcc900d2a35b221de5585", func := "quarry/quarrylaw16.PreOwn", spec := "preOwn", inPlace := ["math/bits.Add64", "math/bits.Sub64"], unfollowed := true, recurses := true, named := ["math/bits.divideError", "math/bits.overflowError"], apart := false }
def PreOwnSaid : Prop := preOwnRow.holds Tryz.pinned (OpenSpec.ofChange preOwnSpec)

/-- ITS FALSE NEIGHBOUR: 'it returns false'. Refute it at one input. -/
def preOwnWrong : ChangeSpec := { name := "preOwn", fn := fun _ => fun
  | [d] => { results := [.lit (.bool false)], args := [d] }
  | _ => none }
def PreOwnWrongFalsely : Prop := preOwnRow.holds Tryz.pinned (OpenSpec.ofChange preOwnWrong)

/-- 'quarrylaw16.PreRun': WHATEVER THE INPUT: true; the input reads as it did. -/
def preRunSpec : ChangeSpec := { name := "preRun", fn := fun _ => fun
  | [d] => { results := [.lit (.bool true)], args := [d] }
  | _ => none }
def preRunRow : OpenClaim := { program := "ytjokcbjahidckaagreat", sum := "b61e59eca70fea10493bfceedb05cc1e41ec30722c2fcc900d2a35b221de5585", func := "quarry/quarrylaw16.PreRun", spec := "preRun", inPlace := ["math/bits.Add64", "math/bits.Sub64"], unfollowed := true, recurses := true, named := ["math/bits.divideError", "math/bits.overflowError"], apart := false }
def PreRunSaid : Prop := preRunRow.holds Tryz.pinned (OpenSpec.ofChange preRunSpec)

/-- ITS FALSE NEIGHBOUR: 'it returns false'. Refute it at one input. -/
def preRunWrong : ChangeSpec := { name := "preRun", fn := fun _ => fun
  | [d] => { results := [.lit (.bool false)], args := [d] }
  | _ => none }
def PreRunWrongFalsely : Prop := preRunRow.holds Tryz.pinned (OpenSpec.ofChange preRunWrong)

/- THE SECOND FORM. 'bulk': how many values and letters a reading holds, each counted each time it is reached (what is shared counts as often as it is met; a slice's spare places count too). A statement '..UptoSaid' is the law's where the arguments, and the package variables that the reading takes, are together of bulk at most 1048576: NARROWER than '..Said'. Prove '..Said' where nothing that the law and all that it calls make is longer than what came in: it says more and counts as full. Else prove '..UptoSaid'. A law counts once. -/
mutual
def uptoBulk {H : Type} : DataW H → Nat
  | .lit (.string bytes) => bytes.length + 1
  | .lit _ => 1
  | .nil => 1
  | .ptr d => uptoBulk d + 1
  | .slice elems spare => uptoBulkAll elems + uptoBulkAll spare + 1
  | .agg parts => uptoBulkAll parts + 1
  | .iface _ d => uptoBulk d + 1
  | .map entries => uptoBulkEntries entries + 1
  | .held _ => 1
def uptoBulkAll {H : Type} : List (DataW H) → Nat
  | [] => 0
  | d :: r => uptoBulk d + uptoBulkAll r
def uptoBulkEntries {H : Type} : List (Lit × DataW H) → Nat
  | [] => 0
  | x :: r => uptoBulkEntry x + uptoBulkEntries r
def uptoBulkEntry {H : Type} : Lit × DataW H → Nat
  | (.string bytes, d) => bytes.length + uptoBulk d + 1
  | (_, d) => uptoBulk d + 1
 end
def uptoSmall : (H : Type) → List (DataW H) → Bool := fun _ ds => decide (uptoBulkAll ds ≤ 1048576)
def OpenSpec.upto (s : _root_.Go.ChangeSpec) : _root_.Go.OpenSpec := { _root_.Go.OpenSpec.ofChange s with cond := some uptoSmall }

/-- 'quarrylaw08.CurveOne', WHERE WHAT IT READS IS OF BULK AT MOST 1048576: true; the input reads as it did. -/
def curveOneUptoRow : OpenClaim := { program := "ytjokcbjahidckaagreat", sum := "b61e59eca70fea10493bfceedb05cc1e41ec30722c2fcc900d2a35b221de5585", func := "quarry/quarrylaw08.CurveOne", spec := "curveOne", inPlace := ["math/bits.Add64", "math/bits.Sub64"], unfollowed := true, recurses := true, named := ["math/bits.divideError", "math/bits.overflowError"], apart := false, narrowed := true }
def CurveOneUptoSaid : Prop := curveOneUptoRow.holds Tryz.pinned (OpenSpec.upto curveOneSpec)

/-- 'quarrylaw08.CurveGroup', WHERE WHAT IT READS IS OF BULK AT MOST 1048576: true; the input reads as it did. -/
def curveGroupUptoRow : OpenClaim := { program := "ytjokcbjahidckaagreat", sum := "b61e59eca70fea10493bfceedb05cc1e41ec30722c2fcc900d2a35b221de5585", func := "quarry/quarrylaw08.CurveGroup", spec := "curveGroup", inPlace := ["math/bits.Add64", "math/bits.Sub64"], unfollowed := true, recurses := true, named := ["math/bits.divideError", "math/bits.overflowError"], apart := false, narrowed := true }
def CurveGroupUptoSaid : Prop := curveGroupUptoRow.holds Tryz.pinned (OpenSpec.upto curveGroupSpec)

/-- 'quarrylaw08.CurveTwo', WHERE WHAT IT READS IS OF BULK AT MOST 1048576: true; the input reads as it did. -/
def curveTwoUptoRow : OpenClaim := { program := "ytjokcbjahidckaagreat", sum := "b61e59eca70fea10493bfceedb05cc1e41ec30722c2fcc900d2a35b221de5585", func := "quarry/quarrylaw08.CurveTwo", spec := "curveTwo", inPlace := ["math/bits.Add64", "math/bits.Sub64"], unfollowed := true, recurses := true, named := ["math/bits.divideError", "math/bits.overflowError"], apart := false, narrowed := true }
def CurveTwoUptoSaid : Prop := curveTwoUptoRow.holds Tryz.pinned (OpenSpec.upto curveTwoSpec)

/-- 'quarrylaw08.CurvePair', WHERE WHAT IT READS IS OF BULK AT MOST 1048576: true; the input reads as it did. -/
def curvePairUptoRow : OpenClaim := { program := "ytjokcbjahidckaagreat", sum := "b61e59eca70fea10493bfceedb05cc1e41ec30722c2fcc900d2a35b221de5585", func := "quarry/quarrylaw08.CurvePair", spec := "curvePair", inPlace := ["math/bits.Add64", "math/bits.Sub64"], unfollowed := true, recurses := true, named := ["math/bits.divideError", "math/bits.overflowError"], apart := false, narrowed := true }
def CurvePairUptoSaid : Prop := curvePairUptoRow.holds Tryz.pinned (OpenSpec.upto curvePairSpec)

/-- 'quarrylaw08.CurveReads', WHERE WHAT IT READS IS OF BULK AT MOST 1048576: true; the input reads as it did. -/
def curveReadsUptoRow : OpenClaim := { program := "ytjokcbjahidckaagreat", sum := "b61e59eca70fea10493bfceedb05cc1e41ec30722c2fcc900d2a35b221de5585", func := "quarry/quarrylaw08.CurveReads", spec := "curveReads", inPlace := ["math/bits.Add64", "math/bits.Sub64"], unfollowed := true, recurses := true, named := ["math/bits.divideError", "math/bits.overflowError"], apart := false, narrowed := true }
def CurveReadsUptoSaid : Prop := curveReadsUptoRow.holds Tryz.pinned (OpenSpec.upto curveReadsSpec)

/-- 'quarrylaw09.PairSums', WHERE WHAT IT READS IS OF BULK AT MOST 1048576: true; the input reads as it did. -/
def pairSumsUptoRow : OpenClaim := { program := "ytjokcbjahidckaagreat", sum := "b61e59eca70fea10493bfceedb05cc1e41ec30722c2fcc900d2a35b221de5585", func := "quarry/quarrylaw09.PairSums", spec := "pairSums", inPlace := ["math/bits.Add64", "math/bits.Sub64"], unfollowed := true, recurses := true, named := ["math/bits.divideError", "math/bits.overflowError"], apart := false, narrowed := true }
def PairSumsUptoSaid : Prop := pairSumsUptoRow.holds Tryz.pinned (OpenSpec.upto pairSumsSpec)

/-- 'quarrylaw09.PairErrors', WHERE WHAT IT READS IS OF BULK AT MOST 1048576: true; the input reads as it did. -/
def pairErrorsUptoRow : OpenClaim := { program := "ytjokcbjahidckaagreat", sum := "b61e59eca70fea10493bfceedb05cc1e41ec30722c2fcc900d2a35b221de5585", func := "quarry/quarrylaw09.PairErrors", spec := "pairErrors", inPlace := ["math/bits.Add64", "math/bits.Sub64"], unfollowed := true, recurses := true, named := ["math/bits.divideError", "math/bits.overflowError"], apart := false, narrowed := true }
def PairErrorsUptoSaid : Prop := pairErrorsUptoRow.holds Tryz.pinned (OpenSpec.upto pairErrorsSpec)

/-- 'quarrylaw09.PairTurns', WHERE WHAT IT READS IS OF BULK AT MOST 1048576: true; the input reads as it did. -/
def pairTurnsUptoRow : OpenClaim := { program := "ytjokcbjahidckaagreat", sum := "b61e59eca70fea10493bfceedb05cc1e41ec30722c2fcc900d2a35b221de5585", func := "quarry/quarrylaw09.PairTurns", spec := "pairTurns", inPlace := ["math/bits.Add64", "math/bits.Sub64"], unfollowed := true, recurses := true, named := ["math/bits.divideError", "math/bits.overflowError"], apart := false, narrowed := true }
def PairTurnsUptoSaid : Prop := pairTurnsUptoRow.holds Tryz.pinned (OpenSpec.upto pairTurnsSpec)

/-- 'quarrylaw08.CurvePacks', WHERE WHAT IT READS IS OF BULK AT MOST 1048576: true; the input reads as it did. -/
def curvePacksUptoRow : OpenClaim := { program := "ytjokcbjahidckaagreat", sum := "b61e59eca70fea10493bfceedb05cc1e41ec30722c2fcc900d2a35b221de5585", func := "quarry/quarrylaw08.CurvePacks", spec := "curvePacks", inPlace := ["math/bits.Add64", "math/bits.Sub64"], unfollowed := true, recurses := true, named := ["math/bits.divideError", "math/bits.overflowError"], apart := false, narrowed := true }
def CurvePacksUptoSaid : Prop := curvePacksUptoRow.holds Tryz.pinned (OpenSpec.upto curvePacksSpec)

/-- 'quarrylaw08.CurveBack', WHERE WHAT IT READS IS OF BULK AT MOST 1048576: true; the input reads as it did. -/
def curveBackUptoRow : OpenClaim := { program := "ytjokcbjahidckaagreat", sum := "b61e59eca70fea10493bfceedb05cc1e41ec30722c2fcc900d2a35b221de5585", func := "quarry/quarrylaw08.CurveBack", spec := "curveBack", inPlace := ["math/bits.Add64", "math/bits.Sub64"], unfollowed := true, recurses := true, named := ["math/bits.divideError", "math/bits.overflowError"], apart := false, narrowed := true }
def CurveBackUptoSaid : Prop := curveBackUptoRow.holds Tryz.pinned (OpenSpec.upto curveBackSpec)

/-- 'quarrylaw10.KzgLines', WHERE WHAT IT READS IS OF BULK AT MOST 1048576: true; the input reads as it did. -/
def kzgLinesUptoRow : OpenClaim := { program := "ytjokcbjahidckaagreat", sum := "b61e59eca70fea10493bfceedb05cc1e41ec30722c2fcc900d2a35b221de5585", func := "quarry/quarrylaw10.KzgLines", spec := "kzgLines", inPlace := ["math/bits.Add64", "math/bits.Sub64"], unfollowed := true, recurses := true, named := ["math/bits.divideError", "math/bits.overflowError"], apart := false, narrowed := true }
def KzgLinesUptoSaid : Prop := kzgLinesUptoRow.holds Tryz.pinned (OpenSpec.upto kzgLinesSpec)

/-- 'quarrylaw10.KzgVerify', WHERE WHAT IT READS IS OF BULK AT MOST 1048576: true; the input reads as it did. -/
def kzgVerifyUptoRow : OpenClaim := { program := "ytjokcbjahidckaagreat", sum := "b61e59eca70fea10493bfceedb05cc1e41ec30722c2fcc900d2a35b221de5585", func := "quarry/quarrylaw10.KzgVerify", spec := "kzgVerify", inPlace := ["math/bits.Add64", "math/bits.Sub64"], unfollowed := true, recurses := true, named := ["math/bits.divideError", "math/bits.overflowError"], apart := false, narrowed := true }
def KzgVerifyUptoSaid : Prop := kzgVerifyUptoRow.holds Tryz.pinned (OpenSpec.upto kzgVerifySpec)

/-- 'quarrylaw10.KzgHash', WHERE WHAT IT READS IS OF BULK AT MOST 1048576: true; the input reads as it did. -/
def kzgHashUptoRow : OpenClaim := { program := "ytjokcbjahidckaagreat", sum := "b61e59eca70fea10493bfceedb05cc1e41ec30722c2fcc900d2a35b221de5585", func := "quarry/quarrylaw10.KzgHash", spec := "kzgHash", inPlace := ["math/bits.Add64", "math/bits.Sub64"], unfollowed := true, recurses := true, named := ["math/bits.divideError", "math/bits.overflowError"], apart := false, narrowed := true }
def KzgHashUptoSaid : Prop := kzgHashUptoRow.holds Tryz.pinned (OpenSpec.upto kzgHashSpec)

/-- 'quarrylaw10.KzgOwn', WHERE WHAT IT READS IS OF BULK AT MOST 1048576: true; the input reads as it did. -/
def kzgOwnUptoRow : OpenClaim := { program := "ytjokcbjahidckaagreat", sum := "b61e59eca70fea10493bfceedb05cc1e41ec30722c2fcc900d2a35b221de5585", func := "quarry/quarrylaw10.KzgOwn", spec := "kzgOwn", inPlace := ["math/bits.Add64", "math/bits.Sub64"], unfollowed := true, recurses := true, named := ["math/bits.divideError", "math/bits.overflowError"], apart := false, narrowed := true }
def KzgOwnUptoSaid : Prop := kzgOwnUptoRow.holds Tryz.pinned (OpenSpec.upto kzgOwnSpec)

/-- 'quarrylaw16.PrePrice', WHERE WHAT IT READS IS OF BULK AT MOST 1048576: true; the input reads as it did. -/
def prePriceUptoRow : OpenClaim := { program := "ytjokcbjahidckaagreat", sum := "b61e59eca70fea10493bfceedb05cc1e41ec30722c2fcc900d2a35b221de5585", func := "quarry/quarrylaw16.PrePrice", spec := "prePrice", inPlace := ["math/bits.Add64", "math/bits.Sub64"], unfollowed := true, recurses := true, named := ["math/bits.divideError", "math/bits.overflowError"], apart := false, narrowed := true }
def PrePriceUptoSaid : Prop := prePriceUptoRow.holds Tryz.pinned (OpenSpec.upto prePriceSpec)

/-- 'quarrylaw16.PrePower', WHERE WHAT IT READS IS OF BULK AT MOST 1048576: true; the input reads as it did. -/
def prePowerUptoRow : OpenClaim := { program := "ytjokcbjahidckaagreat", sum := "b61e59eca70fea10493bfceedb05cc1e41ec30722c2fcc900d2a35b221de5585", func := "quarry/quarrylaw16.PrePower", spec := "prePower", inPlace := ["math/bits.Add64", "math/bits.Sub64"], unfollowed := true, recurses := true, named := ["math/bits.divideError", "math/bits.overflowError"], apart := false, narrowed := true }
def PrePowerUptoSaid : Prop := prePowerUptoRow.holds Tryz.pinned (OpenSpec.upto prePowerSpec)

/-- 'quarrylaw16.PrePairs', WHERE WHAT IT READS IS OF BULK AT MOST 1048576: true; the input reads as it did. -/
def prePairsUptoRow : OpenClaim := { program := "ytjokcbjahidckaagreat", sum := "b61e59eca70fea10493bfceedb05cc1e41ec30722c2fcc900d2a35b221de5585", func := "quarry/quarrylaw16.PrePairs", spec := "prePairs", inPlace := ["math/bits.Add64", "math/bits.Sub64"], unfollowed := true, recurses := true, named := ["math/bits.divideError", "math/bits.overflowError"], apart := false, narrowed := true }
def PrePairsUptoSaid : Prop := prePairsUptoRow.holds Tryz.pinned (OpenSpec.upto prePairsSpec)

/-- 'quarrylaw16.PreProof', WHERE WHAT IT READS IS OF BULK AT MOST 1048576: true; the input reads as it did. -/
def preProofUptoRow : OpenClaim := { program := "ytjokcbjahidckaagreat", sum := "b61e59eca70fea10493bfceedb05cc1e41ec30722c2fcc900d2a35b221de5585", func := "quarry/quarrylaw16.PreProof", spec := "preProof", inPlace := ["math/bits.Add64", "math/bits.Sub64"], unfollowed := true, recurses := true, named := ["math/bits.divideError", "math/bits.overflowError"], apart := false, narrowed := true }
def PreProofUptoSaid : Prop := preProofUptoRow.holds Tryz.pinned (OpenSpec.upto preProofSpec)

/-- 'quarrylaw16.PreOwn', WHERE WHAT IT READS IS OF BULK AT MOST 1048576: true; the input reads as it did. -/
def preOwnUptoRow : OpenClaim := { program := "ytjokcbjahidckaagreat", sum := "b61e59eca70fea10493bfceedb05cc1e41ec30722c2fcc900d2a35b221de5585", func := "quarry/quarrylaw16.PreOwn", spec := "preOwn", inPlace := ["math/bits.Add64", "math/bits.Sub64"], unfollowed := true, recurses := true, named := ["math/bits.divideError", "math/bits.overflowError"], apart := false, narrowed := true }
def PreOwnUptoSaid : Prop := preOwnUptoRow.holds Tryz.pinned (OpenSpec.upto preOwnSpec)

/-- 'quarrylaw16.PreRun', WHERE WHAT IT READS IS OF BULK AT MOST 1048576: true; the input reads as it did. -/
def preRunUptoRow : OpenClaim := { program := "ytjokcbjahidckaagreat", sum := "b61e59eca70fea10493bfceedb05cc1e41ec30722c2fcc900d2a35b221de5585", func := "quarry/quarrylaw16.PreRun", spec := "preRun", inPlace := ["math/bits.Add64", "math/bits.Sub64"], unfollowed := true, recurses := true, named := ["math/bits.divideError", "math/bits.overflowError"], apart := false, narrowed := true }
def PreRunUptoSaid : Prop := preRunUptoRow.holds Tryz.pinned (OpenSpec.upto preRunSpec)

end Rows
end Go.Proofs.YtjokcbjahidckaaGreat
