/-
  No cell of these rows narrows 'for every input' (looked for: loops, veiled, ifaces, maps, wideKeys, modest, calm, conditions, laid).
  DERIVED. THE GIVEN ROWS OF THIS SEAT. 20 by the template 'for every input the law returns true; each argument reads behind the call as it read before'; 0 by the template 'total and deterministic' (their statements: YtenfnakhijobkaaGreatTotals.lean).
  GIVEN WITH THE SEED: the statements are not yours to turn. If you find one false, say at which input.
  Laid BY PROGRAM, IN A SANDBOX (cutbox-rows.mjs): the forced cells as the released guide's own fill.sh prints them over the translation 4658d3e01434479b… (all of the seat's roots in one cut). By AI agents, Wed Nov 11 2026. No macro, syntax, notation, axiom, sorry.
-/
import Derived.Test.YtenfnakhijobkaaGreatChecked
import GoSem.Claim
import GoSem.ClaimJoined
import GoSem.ClaimMapViews
import Derived.JoinedTies
import Derived.KernelRfl
namespace Go.Proofs.YtenfnakhijobkaaGreat
/- THE CELL 'sum', in the pinned program and in every row, IS THE sha256 OF THE DUMP (.gsa) THAT YtenfnakhijobkaaGreatProg.lean LOADS. Nothing in Lean hashes anything: it is a label: what it is worth is what the hold of that sum in a sandbox is worth. -/
noncomputable def Tryz.pinned : Pinned := { name := "ytenfnakhijobkaagreat", sum := "4658d3e01434479bfcbb759189d6baba0778285143a15bd6f1caa9c37c8f4d06", checked := Tryz.checked }
namespace Rows
def none {H : Type} : Left H := { results := [], args := [] }

/-- 'anillaw10.SaleReady': WHATEVER THE INPUT: true; the input reads as it did. -/
def saleReadySpec : ChangeSpec := { name := "saleReady", fn := fun _ => fun
  | [d1, d2] => { results := [.lit (.bool true)], args := [d1, d2] }
  | _ => none }
def saleReadyRow : OpenClaim := { program := "ytenfnakhijobkaagreat", sum := "4658d3e01434479bfcbb759189d6baba0778285143a15bd6f1caa9c37c8f4d06", func := "anil/anillaw10.SaleReady", spec := "saleReady", unfollowed := true, recurses := true, plainKeys := false, apart := false }
def SaleReadySaid : Prop := saleReadyRow.holds Tryz.pinned (OpenSpec.ofChange saleReadySpec)

/-- ITS FALSE NEIGHBOUR: 'it returns false'. Refute it at one input. -/
def saleReadyWrong : ChangeSpec := { name := "saleReady", fn := fun _ => fun
  | [d1, d2] => { results := [.lit (.bool false)], args := [d1, d2] }
  | _ => none }
def SaleReadyWrongFalsely : Prop := saleReadyRow.holds Tryz.pinned (OpenSpec.ofChange saleReadyWrong)

/-- 'anillaw10.SalePrices': WHATEVER THE INPUT: true; the input reads as it did. -/
def salePricesSpec : ChangeSpec := { name := "salePrices", fn := fun _ => fun
  | [d] => { results := [.lit (.bool true)], args := [d] }
  | _ => none }
def salePricesRow : OpenClaim := { program := "ytenfnakhijobkaagreat", sum := "4658d3e01434479bfcbb759189d6baba0778285143a15bd6f1caa9c37c8f4d06", func := "anil/anillaw10.SalePrices", spec := "salePrices", unfollowed := true, recurses := true, plainKeys := false, apart := false }
def SalePricesSaid : Prop := salePricesRow.holds Tryz.pinned (OpenSpec.ofChange salePricesSpec)

/-- ITS FALSE NEIGHBOUR: 'it returns false'. Refute it at one input. -/
def salePricesWrong : ChangeSpec := { name := "salePrices", fn := fun _ => fun
  | [d] => { results := [.lit (.bool false)], args := [d] }
  | _ => none }
def SalePricesWrongFalsely : Prop := salePricesRow.holds Tryz.pinned (OpenSpec.ofChange salePricesWrong)

/-- 'anillaw10.SaleBrings': WHATEVER THE INPUT: true; the input reads as it did. -/
def saleBringsSpec : ChangeSpec := { name := "saleBrings", fn := fun _ => fun
  | [d1, d2] => { results := [.lit (.bool true)], args := [d1, d2] }
  | _ => none }
def saleBringsRow : OpenClaim := { program := "ytenfnakhijobkaagreat", sum := "4658d3e01434479bfcbb759189d6baba0778285143a15bd6f1caa9c37c8f4d06", func := "anil/anillaw10.SaleBrings", spec := "saleBrings", unfollowed := true, recurses := true, plainKeys := false, apart := false }
def SaleBringsSaid : Prop := saleBringsRow.holds Tryz.pinned (OpenSpec.ofChange saleBringsSpec)

/-- ITS FALSE NEIGHBOUR: 'it returns false'. Refute it at one input. -/
def saleBringsWrong : ChangeSpec := { name := "saleBrings", fn := fun _ => fun
  | [d1, d2] => { results := [.lit (.bool false)], args := [d1, d2] }
  | _ => none }
def SaleBringsWrongFalsely : Prop := saleBringsRow.holds Tryz.pinned (OpenSpec.ofChange saleBringsWrong)

/-- 'anillaw10.SaleWorth': WHATEVER THE INPUT: true; the input reads as it did. -/
def saleWorthSpec : ChangeSpec := { name := "saleWorth", fn := fun _ => fun
  | [d1, d2] => { results := [.lit (.bool true)], args := [d1, d2] }
  | _ => none }
def saleWorthRow : OpenClaim := { program := "ytenfnakhijobkaagreat", sum := "4658d3e01434479bfcbb759189d6baba0778285143a15bd6f1caa9c37c8f4d06", func := "anil/anillaw10.SaleWorth", spec := "saleWorth", unfollowed := true, recurses := true, plainKeys := false, apart := false }
def SaleWorthSaid : Prop := saleWorthRow.holds Tryz.pinned (OpenSpec.ofChange saleWorthSpec)

/-- ITS FALSE NEIGHBOUR: 'it returns false'. Refute it at one input. -/
def saleWorthWrong : ChangeSpec := { name := "saleWorth", fn := fun _ => fun
  | [d1, d2] => { results := [.lit (.bool false)], args := [d1, d2] }
  | _ => none }
def SaleWorthWrongFalsely : Prop := saleWorthRow.holds Tryz.pinned (OpenSpec.ofChange saleWorthWrong)

/-- 'anillaw10.SaleLeaves': WHATEVER THE INPUT: true; the input reads as it did. -/
def saleLeavesSpec : ChangeSpec := { name := "saleLeaves", fn := fun _ => fun
  | [d] => { results := [.lit (.bool true)], args := [d] }
  | _ => none }
def saleLeavesRow : OpenClaim := { program := "ytenfnakhijobkaagreat", sum := "4658d3e01434479bfcbb759189d6baba0778285143a15bd6f1caa9c37c8f4d06", func := "anil/anillaw10.SaleLeaves", spec := "saleLeaves", unfollowed := true, recurses := true, plainKeys := false, apart := false }
def SaleLeavesSaid : Prop := saleLeavesRow.holds Tryz.pinned (OpenSpec.ofChange saleLeavesSpec)

/-- ITS FALSE NEIGHBOUR: 'it returns false'. Refute it at one input. -/
def saleLeavesWrong : ChangeSpec := { name := "saleLeaves", fn := fun _ => fun
  | [d] => { results := [.lit (.bool false)], args := [d] }
  | _ => none }
def SaleLeavesWrongFalsely : Prop := saleLeavesRow.holds Tryz.pinned (OpenSpec.ofChange saleLeavesWrong)

/-- 'aniltop.TopOffered': WHATEVER THE INPUT: true; the input reads as it did. -/
def topOfferedSpec : ChangeSpec := { name := "topOffered", fn := fun _ => fun
  | [d] => { results := [.lit (.bool true)], args := [d] }
  | _ => none }
def topOfferedRow : OpenClaim := { program := "ytenfnakhijobkaagreat", sum := "4658d3e01434479bfcbb759189d6baba0778285143a15bd6f1caa9c37c8f4d06", func := "anil/aniltop.TopOffered", spec := "topOffered", unfollowed := true, recurses := true, plainKeys := false, apart := false }
def TopOfferedSaid : Prop := topOfferedRow.holds Tryz.pinned (OpenSpec.ofChange topOfferedSpec)

/-- ITS FALSE NEIGHBOUR: 'it returns false'. Refute it at one input. -/
def topOfferedWrong : ChangeSpec := { name := "topOffered", fn := fun _ => fun
  | [d] => { results := [.lit (.bool false)], args := [d] }
  | _ => none }
def TopOfferedWrongFalsely : Prop := topOfferedRow.holds Tryz.pinned (OpenSpec.ofChange topOfferedWrong)

/-- 'anillaw10.SaleEnds': WHATEVER THE INPUT: true; the input reads as it did. -/
def saleEndsSpec : ChangeSpec := { name := "saleEnds", fn := fun _ => fun
  | [d1, d2, d3] => { results := [.lit (.bool true)], args := [d1, d2, d3] }
  | _ => none }
def saleEndsRow : OpenClaim := { program := "ytenfnakhijobkaagreat", sum := "4658d3e01434479bfcbb759189d6baba0778285143a15bd6f1caa9c37c8f4d06", func := "anil/anillaw10.SaleEnds", spec := "saleEnds", unfollowed := true, recurses := true, plainKeys := false, apart := false }
def SaleEndsSaid : Prop := saleEndsRow.holds Tryz.pinned (OpenSpec.ofChange saleEndsSpec)

/-- ITS FALSE NEIGHBOUR: 'it returns false'. Refute it at one input. -/
def saleEndsWrong : ChangeSpec := { name := "saleEnds", fn := fun _ => fun
  | [d1, d2, d3] => { results := [.lit (.bool false)], args := [d1, d2, d3] }
  | _ => none }
def SaleEndsWrongFalsely : Prop := saleEndsRow.holds Tryz.pinned (OpenSpec.ofChange saleEndsWrong)

/-- 'anillaw10.SaleSteps': WHATEVER THE INPUT: true; the input reads as it did. -/
def saleStepsSpec : ChangeSpec := { name := "saleSteps", fn := fun _ => fun
  | [d] => { results := [.lit (.bool true)], args := [d] }
  | _ => none }
def saleStepsRow : OpenClaim := { program := "ytenfnakhijobkaagreat", sum := "4658d3e01434479bfcbb759189d6baba0778285143a15bd6f1caa9c37c8f4d06", func := "anil/anillaw10.SaleSteps", spec := "saleSteps", unfollowed := true, recurses := true, plainKeys := false, apart := false }
def SaleStepsSaid : Prop := saleStepsRow.holds Tryz.pinned (OpenSpec.ofChange saleStepsSpec)

/-- ITS FALSE NEIGHBOUR: 'it returns false'. Refute it at one input. -/
def saleStepsWrong : ChangeSpec := { name := "saleSteps", fn := fun _ => fun
  | [d] => { results := [.lit (.bool false)], args := [d] }
  | _ => none }
def SaleStepsWrongFalsely : Prop := saleStepsRow.holds Tryz.pinned (OpenSpec.ofChange saleStepsWrong)

/-- 'anillaw10.SaleLater': WHATEVER THE INPUT: true; the input reads as it did. -/
def saleLaterSpec : ChangeSpec := { name := "saleLater", fn := fun _ => fun
  | [d1, d2, d3] => { results := [.lit (.bool true)], args := [d1, d2, d3] }
  | _ => none }
def saleLaterRow : OpenClaim := { program := "ytenfnakhijobkaagreat", sum := "4658d3e01434479bfcbb759189d6baba0778285143a15bd6f1caa9c37c8f4d06", func := "anil/anillaw10.SaleLater", spec := "saleLater", unfollowed := true, recurses := true, plainKeys := false, apart := false }
def SaleLaterSaid : Prop := saleLaterRow.holds Tryz.pinned (OpenSpec.ofChange saleLaterSpec)

/-- ITS FALSE NEIGHBOUR: 'it returns false'. Refute it at one input. -/
def saleLaterWrong : ChangeSpec := { name := "saleLater", fn := fun _ => fun
  | [d1, d2, d3] => { results := [.lit (.bool false)], args := [d1, d2, d3] }
  | _ => none }
def SaleLaterWrongFalsely : Prop := saleLaterRow.holds Tryz.pinned (OpenSpec.ofChange saleLaterWrong)

/-- 'anillaw10.SaleNothing': WHATEVER THE INPUT: true; the input reads as it did. -/
def saleNothingSpec : ChangeSpec := { name := "saleNothing", fn := fun _ => fun
  | [d1, d2] => { results := [.lit (.bool true)], args := [d1, d2] }
  | _ => none }
def saleNothingRow : OpenClaim := { program := "ytenfnakhijobkaagreat", sum := "4658d3e01434479bfcbb759189d6baba0778285143a15bd6f1caa9c37c8f4d06", func := "anil/anillaw10.SaleNothing", spec := "saleNothing", unfollowed := true, recurses := true, plainKeys := false, apart := false }
def SaleNothingSaid : Prop := saleNothingRow.holds Tryz.pinned (OpenSpec.ofChange saleNothingSpec)

/-- ITS FALSE NEIGHBOUR: 'it returns false'. Refute it at one input. -/
def saleNothingWrong : ChangeSpec := { name := "saleNothing", fn := fun _ => fun
  | [d1, d2] => { results := [.lit (.bool false)], args := [d1, d2] }
  | _ => none }
def SaleNothingWrongFalsely : Prop := saleNothingRow.holds Tryz.pinned (OpenSpec.ofChange saleNothingWrong)

/-- 'anillaw10.SaleMore': WHATEVER THE INPUT: true; the input reads as it did. -/
def saleMoreSpec : ChangeSpec := { name := "saleMore", fn := fun _ => fun
  | [d1, d2, d3] => { results := [.lit (.bool true)], args := [d1, d2, d3] }
  | _ => none }
def saleMoreRow : OpenClaim := { program := "ytenfnakhijobkaagreat", sum := "4658d3e01434479bfcbb759189d6baba0778285143a15bd6f1caa9c37c8f4d06", func := "anil/anillaw10.SaleMore", spec := "saleMore", unfollowed := true, recurses := true, plainKeys := false, apart := false }
def SaleMoreSaid : Prop := saleMoreRow.holds Tryz.pinned (OpenSpec.ofChange saleMoreSpec)

/-- ITS FALSE NEIGHBOUR: 'it returns false'. Refute it at one input. -/
def saleMoreWrong : ChangeSpec := { name := "saleMore", fn := fun _ => fun
  | [d1, d2, d3] => { results := [.lit (.bool false)], args := [d1, d2, d3] }
  | _ => none }
def SaleMoreWrongFalsely : Prop := saleMoreRow.holds Tryz.pinned (OpenSpec.ofChange saleMoreWrong)

/-- 'anillaw10.SaleKnown': WHATEVER THE INPUT: true; the input reads as it did. -/
def saleKnownSpec : ChangeSpec := { name := "saleKnown", fn := fun _ => fun
  | [d1, d2, d3] => { results := [.lit (.bool true)], args := [d1, d2, d3] }
  | _ => none }
def saleKnownRow : OpenClaim := { program := "ytenfnakhijobkaagreat", sum := "4658d3e01434479bfcbb759189d6baba0778285143a15bd6f1caa9c37c8f4d06", func := "anil/anillaw10.SaleKnown", spec := "saleKnown", unfollowed := true, recurses := true, plainKeys := false, apart := false }
def SaleKnownSaid : Prop := saleKnownRow.holds Tryz.pinned (OpenSpec.ofChange saleKnownSpec)

/-- ITS FALSE NEIGHBOUR: 'it returns false'. Refute it at one input. -/
def saleKnownWrong : ChangeSpec := { name := "saleKnown", fn := fun _ => fun
  | [d1, d2, d3] => { results := [.lit (.bool false)], args := [d1, d2, d3] }
  | _ => none }
def SaleKnownWrongFalsely : Prop := saleKnownRow.holds Tryz.pinned (OpenSpec.ofChange saleKnownWrong)

/-- 'anillaw10.SaleWider': WHATEVER THE INPUT: true; the input reads as it did. -/
def saleWiderSpec : ChangeSpec := { name := "saleWider", fn := fun _ => fun
  | [d1, d2, d3] => { results := [.lit (.bool true)], args := [d1, d2, d3] }
  | _ => none }
def saleWiderRow : OpenClaim := { program := "ytenfnakhijobkaagreat", sum := "4658d3e01434479bfcbb759189d6baba0778285143a15bd6f1caa9c37c8f4d06", func := "anil/anillaw10.SaleWider", spec := "saleWider", unfollowed := true, recurses := true, plainKeys := false, apart := false }
def SaleWiderSaid : Prop := saleWiderRow.holds Tryz.pinned (OpenSpec.ofChange saleWiderSpec)

/-- ITS FALSE NEIGHBOUR: 'it returns false'. Refute it at one input. -/
def saleWiderWrong : ChangeSpec := { name := "saleWider", fn := fun _ => fun
  | [d1, d2, d3] => { results := [.lit (.bool false)], args := [d1, d2, d3] }
  | _ => none }
def SaleWiderWrongFalsely : Prop := saleWiderRow.holds Tryz.pinned (OpenSpec.ofChange saleWiderWrong)

/-- 'anillaw10.SaleDrier': WHATEVER THE INPUT: true; the input reads as it did. -/
def saleDrierSpec : ChangeSpec := { name := "saleDrier", fn := fun _ => fun
  | [d1, d2, d3] => { results := [.lit (.bool true)], args := [d1, d2, d3] }
  | _ => none }
def saleDrierRow : OpenClaim := { program := "ytenfnakhijobkaagreat", sum := "4658d3e01434479bfcbb759189d6baba0778285143a15bd6f1caa9c37c8f4d06", func := "anil/anillaw10.SaleDrier", spec := "saleDrier", unfollowed := true, recurses := true, plainKeys := false, apart := false }
def SaleDrierSaid : Prop := saleDrierRow.holds Tryz.pinned (OpenSpec.ofChange saleDrierSpec)

/-- ITS FALSE NEIGHBOUR: 'it returns false'. Refute it at one input. -/
def saleDrierWrong : ChangeSpec := { name := "saleDrier", fn := fun _ => fun
  | [d1, d2, d3] => { results := [.lit (.bool false)], args := [d1, d2, d3] }
  | _ => none }
def SaleDrierWrongFalsely : Prop := saleDrierRow.holds Tryz.pinned (OpenSpec.ofChange saleDrierWrong)

/-- 'anillaw10.SaleFirst': WHATEVER THE INPUT: true; the input reads as it did. -/
def saleFirstSpec : ChangeSpec := { name := "saleFirst", fn := fun _ => fun
  | [d] => { results := [.lit (.bool true)], args := [d] }
  | _ => none }
def saleFirstRow : OpenClaim := { program := "ytenfnakhijobkaagreat", sum := "4658d3e01434479bfcbb759189d6baba0778285143a15bd6f1caa9c37c8f4d06", func := "anil/anillaw10.SaleFirst", spec := "saleFirst", unfollowed := true, recurses := true, plainKeys := false, apart := false }
def SaleFirstSaid : Prop := saleFirstRow.holds Tryz.pinned (OpenSpec.ofChange saleFirstSpec)

/-- ITS FALSE NEIGHBOUR: 'it returns false'. Refute it at one input. -/
def saleFirstWrong : ChangeSpec := { name := "saleFirst", fn := fun _ => fun
  | [d] => { results := [.lit (.bool false)], args := [d] }
  | _ => none }
def SaleFirstWrongFalsely : Prop := saleFirstRow.holds Tryz.pinned (OpenSpec.ofChange saleFirstWrong)

/-- 'anillaw10.SaleLeft': WHATEVER THE INPUT: true; the input reads as it did. -/
def saleLeftSpec : ChangeSpec := { name := "saleLeft", fn := fun _ => fun
  | [d1, d2] => { results := [.lit (.bool true)], args := [d1, d2] }
  | _ => none }
def saleLeftRow : OpenClaim := { program := "ytenfnakhijobkaagreat", sum := "4658d3e01434479bfcbb759189d6baba0778285143a15bd6f1caa9c37c8f4d06", func := "anil/anillaw10.SaleLeft", spec := "saleLeft", unfollowed := true, recurses := true, plainKeys := false, apart := false }
def SaleLeftSaid : Prop := saleLeftRow.holds Tryz.pinned (OpenSpec.ofChange saleLeftSpec)

/-- ITS FALSE NEIGHBOUR: 'it returns false'. Refute it at one input. -/
def saleLeftWrong : ChangeSpec := { name := "saleLeft", fn := fun _ => fun
  | [d1, d2] => { results := [.lit (.bool false)], args := [d1, d2] }
  | _ => none }
def SaleLeftWrongFalsely : Prop := saleLeftRow.holds Tryz.pinned (OpenSpec.ofChange saleLeftWrong)

/-- 'anillaw10.SaleBest': WHATEVER THE INPUT: true; the input reads as it did. -/
def saleBestSpec : ChangeSpec := { name := "saleBest", fn := fun _ => fun
  | [d1, d2, d3] => { results := [.lit (.bool true)], args := [d1, d2, d3] }
  | _ => none }
def saleBestRow : OpenClaim := { program := "ytenfnakhijobkaagreat", sum := "4658d3e01434479bfcbb759189d6baba0778285143a15bd6f1caa9c37c8f4d06", func := "anil/anillaw10.SaleBest", spec := "saleBest", unfollowed := true, recurses := true, plainKeys := false, apart := false }
def SaleBestSaid : Prop := saleBestRow.holds Tryz.pinned (OpenSpec.ofChange saleBestSpec)

/-- ITS FALSE NEIGHBOUR: 'it returns false'. Refute it at one input. -/
def saleBestWrong : ChangeSpec := { name := "saleBest", fn := fun _ => fun
  | [d1, d2, d3] => { results := [.lit (.bool false)], args := [d1, d2, d3] }
  | _ => none }
def SaleBestWrongFalsely : Prop := saleBestRow.holds Tryz.pinned (OpenSpec.ofChange saleBestWrong)

/-- 'anillaw10.SaleNoBetter': WHATEVER THE INPUT: true; the input reads as it did. -/
def saleNoBetterSpec : ChangeSpec := { name := "saleNoBetter", fn := fun _ => fun
  | [d1, d2] => { results := [.lit (.bool true)], args := [d1, d2] }
  | _ => none }
def saleNoBetterRow : OpenClaim := { program := "ytenfnakhijobkaagreat", sum := "4658d3e01434479bfcbb759189d6baba0778285143a15bd6f1caa9c37c8f4d06", func := "anil/anillaw10.SaleNoBetter", spec := "saleNoBetter", unfollowed := true, recurses := true, plainKeys := false, apart := false }
def SaleNoBetterSaid : Prop := saleNoBetterRow.holds Tryz.pinned (OpenSpec.ofChange saleNoBetterSpec)

/-- ITS FALSE NEIGHBOUR: 'it returns false'. Refute it at one input. -/
def saleNoBetterWrong : ChangeSpec := { name := "saleNoBetter", fn := fun _ => fun
  | [d1, d2] => { results := [.lit (.bool false)], args := [d1, d2] }
  | _ => none }
def SaleNoBetterWrongFalsely : Prop := saleNoBetterRow.holds Tryz.pinned (OpenSpec.ofChange saleNoBetterWrong)

/-- 'anillaw10.SalePlays': WHATEVER THE INPUT: true; the input reads as it did. -/
def salePlaysSpec : ChangeSpec := { name := "salePlays", fn := fun _ => fun
  | [d1, d2, d3] => { results := [.lit (.bool true)], args := [d1, d2, d3] }
  | _ => none }
def salePlaysRow : OpenClaim := { program := "ytenfnakhijobkaagreat", sum := "4658d3e01434479bfcbb759189d6baba0778285143a15bd6f1caa9c37c8f4d06", func := "anil/anillaw10.SalePlays", spec := "salePlays", unfollowed := true, recurses := true, plainKeys := false, apart := false }
def SalePlaysSaid : Prop := salePlaysRow.holds Tryz.pinned (OpenSpec.ofChange salePlaysSpec)

/-- ITS FALSE NEIGHBOUR: 'it returns false'. Refute it at one input. -/
def salePlaysWrong : ChangeSpec := { name := "salePlays", fn := fun _ => fun
  | [d1, d2, d3] => { results := [.lit (.bool false)], args := [d1, d2, d3] }
  | _ => none }
def SalePlaysWrongFalsely : Prop := salePlaysRow.holds Tryz.pinned (OpenSpec.ofChange salePlaysWrong)

/-- 'anillaw10.SaleTruth': WHATEVER THE INPUT: true; the input reads as it did. -/
def saleTruthSpec : ChangeSpec := { name := "saleTruth", fn := fun _ => fun
  | [d1, d2, d3, d4] => { results := [.lit (.bool true)], args := [d1, d2, d3, d4] }
  | _ => none }
def saleTruthRow : OpenClaim := { program := "ytenfnakhijobkaagreat", sum := "4658d3e01434479bfcbb759189d6baba0778285143a15bd6f1caa9c37c8f4d06", func := "anil/anillaw10.SaleTruth", spec := "saleTruth", unfollowed := true, recurses := true, plainKeys := false, apart := false }
def SaleTruthSaid : Prop := saleTruthRow.holds Tryz.pinned (OpenSpec.ofChange saleTruthSpec)

/-- ITS FALSE NEIGHBOUR: 'it returns false'. Refute it at one input. -/
def saleTruthWrong : ChangeSpec := { name := "saleTruth", fn := fun _ => fun
  | [d1, d2, d3, d4] => { results := [.lit (.bool false)], args := [d1, d2, d3, d4] }
  | _ => none }
def SaleTruthWrongFalsely : Prop := saleTruthRow.holds Tryz.pinned (OpenSpec.ofChange saleTruthWrong)

/- THE SECOND FORM. 'bulk': how many values and letters a reading holds, each counted each time it is reached (what is shared counts as often as it is met; a slice's spare places count too). A statement '..UptoSaid' is the law's where the arguments, and the package variables that the reading takes, are together of bulk at most 1048576: NARROWER than '..Said'. Prove '..Said' where nothing that the law and all that it calls make is longer than what came in: it says more and counts as full. Else prove '..UptoSaid'. A law counts once. -/
mutual
def uptoBulk {H : Type} : DataW H → Nat
  | .lit (.string bytes) => bytes.length + 1
  | .lit _ => 1
  | .nil => 1
  | .ptr d => uptoBulk d + 1
  | .slice elems spare => uptoBulkAll elems + uptoBulkAll spare + 1
  | .agg parts => uptoBulkAll parts + 1
  | .iface _ d => uptoBulk d + 1
  | .map entries => uptoBulkEntries entries + 1
  | .held _ => 1
def uptoBulkAll {H : Type} : List (DataW H) → Nat
  | [] => 0
  | d :: r => uptoBulk d + uptoBulkAll r
def uptoBulkEntries {H : Type} : List (Lit × DataW H) → Nat
  | [] => 0
  | x :: r => uptoBulkEntry x + uptoBulkEntries r
def uptoBulkEntry {H : Type} : Lit × DataW H → Nat
  | (.string bytes, d) => bytes.length + uptoBulk d + 1
  | (_, d) => uptoBulk d + 1
 end
def uptoSmall : (H : Type) → List (DataW H) → Bool := fun _ ds => decide (uptoBulkAll ds ≤ 1048576)
def OpenSpec.upto (s : _root_.Go.ChangeSpec) : _root_.Go.OpenSpec := { _root_.Go.OpenSpec.ofChange s with cond := some uptoSmall }

/-- 'anillaw10.SaleReady', WHERE WHAT IT READS IS OF BULK AT MOST 1048576: true; the input reads as it did. -/
def saleReadyUptoRow : OpenClaim := { program := "ytenfnakhijobkaagreat", sum := "4658d3e01434479bfcbb759189d6baba0778285143a15bd6f1caa9c37c8f4d06", func := "anil/anillaw10.SaleReady", spec := "saleReady", unfollowed := true, recurses := true, plainKeys := false, apart := false, narrowed := true }
def SaleReadyUptoSaid : Prop := saleReadyUptoRow.holds Tryz.pinned (OpenSpec.upto saleReadySpec)

/-- 'anillaw10.SalePrices', WHERE WHAT IT READS IS OF BULK AT MOST 1048576: true; the input reads as it did. -/
def salePricesUptoRow : OpenClaim := { program := "ytenfnakhijobkaagreat", sum := "4658d3e01434479bfcbb759189d6baba0778285143a15bd6f1caa9c37c8f4d06", func := "anil/anillaw10.SalePrices", spec := "salePrices", unfollowed := true, recurses := true, plainKeys := false, apart := false, narrowed := true }
def SalePricesUptoSaid : Prop := salePricesUptoRow.holds Tryz.pinned (OpenSpec.upto salePricesSpec)

/-- 'anillaw10.SaleBrings', WHERE WHAT IT READS IS OF BULK AT MOST 1048576: true; the input reads as it did. -/
def saleBringsUptoRow : OpenClaim := { program := "ytenfnakhijobkaagreat", sum := "4658d3e01434479bfcbb759189d6baba0778285143a15bd6f1caa9c37c8f4d06", func := "anil/anillaw10.SaleBrings", spec := "saleBrings", unfollowed := true, recurses := true, plainKeys := false, apart := false, narrowed := true }
def SaleBringsUptoSaid : Prop := saleBringsUptoRow.holds Tryz.pinned (OpenSpec.upto saleBringsSpec)

/-- 'anillaw10.SaleWorth', WHERE WHAT IT READS IS OF BULK AT MOST 1048576: true; the input reads as it did. -/
def saleWorthUptoRow : OpenClaim := { program := "ytenfnakhijobkaagreat", sum := "4658d3e01434479bfcbb759189d6baba0778285143a15bd6f1caa9c37c8f4d06", func := "anil/anillaw10.SaleWorth", spec := "saleWorth", unfollowed := true, recurses := true, plainKeys := false, apart := false, narrowed := true }
def SaleWorthUptoSaid : Prop := saleWorthUptoRow.holds Tryz.pinned (OpenSpec.upto saleWorthSpec)

/-- 'anillaw10.SaleLeaves', WHERE WHAT IT READS IS OF BULK AT MOST 1048576: true; the input reads as it did. -/
def saleLeavesUptoRow : OpenClaim := { program := "ytenfnakhijobkaagreat", sum := "4658d3e01434479bfcbb759189d6baba0778285143a15bd6f1caa9c37c8f4d06", func := "anil/anillaw10.SaleLeaves", spec := "saleLeaves", unfollowed := true, recurses := true, plainKeys := false, apart := false, narrowed := true }
def SaleLeavesUptoSaid : Prop := saleLeavesUptoRow.holds Tryz.pinned (OpenSpec.upto saleLeavesSpec)

/-- 'aniltop.TopOffered', WHERE WHAT IT READS IS OF BULK AT MOST 1048576: true; the input reads as it did. -/
def topOfferedUptoRow : OpenClaim := { program := "ytenfnakhijobkaagreat", sum := "4658d3e01434479bfcbb759189d6baba0778285143a15bd6f1caa9c37c8f4d06", func := "anil/aniltop.TopOffered", spec := "topOffered", unfollowed := true, recurses := true, plainKeys := false, apart := false, narrowed := true }
def TopOfferedUptoSaid : Prop := topOfferedUptoRow.holds Tryz.pinned (OpenSpec.upto topOfferedSpec)

/-- 'anillaw10.SaleEnds', WHERE WHAT IT READS IS OF BULK AT MOST 1048576: true; the input reads as it did. -/
def saleEndsUptoRow : OpenClaim := { program := "ytenfnakhijobkaagreat", sum := "4658d3e01434479bfcbb759189d6baba0778285143a15bd6f1caa9c37c8f4d06", func := "anil/anillaw10.SaleEnds", spec := "saleEnds", unfollowed := true, recurses := true, plainKeys := false, apart := false, narrowed := true }
def SaleEndsUptoSaid : Prop := saleEndsUptoRow.holds Tryz.pinned (OpenSpec.upto saleEndsSpec)

/-- 'anillaw10.SaleSteps', WHERE WHAT IT READS IS OF BULK AT MOST 1048576: true; the input reads as it did. -/
def saleStepsUptoRow : OpenClaim := { program := "ytenfnakhijobkaagreat", sum := "4658d3e01434479bfcbb759189d6baba0778285143a15bd6f1caa9c37c8f4d06", func := "anil/anillaw10.SaleSteps", spec := "saleSteps", unfollowed := true, recurses := true, plainKeys := false, apart := false, narrowed := true }
def SaleStepsUptoSaid : Prop := saleStepsUptoRow.holds Tryz.pinned (OpenSpec.upto saleStepsSpec)

/-- 'anillaw10.SaleLater', WHERE WHAT IT READS IS OF BULK AT MOST 1048576: true; the input reads as it did. -/
def saleLaterUptoRow : OpenClaim := { program := "ytenfnakhijobkaagreat", sum := "4658d3e01434479bfcbb759189d6baba0778285143a15bd6f1caa9c37c8f4d06", func := "anil/anillaw10.SaleLater", spec := "saleLater", unfollowed := true, recurses := true, plainKeys := false, apart := false, narrowed := true }
def SaleLaterUptoSaid : Prop := saleLaterUptoRow.holds Tryz.pinned (OpenSpec.upto saleLaterSpec)

/-- 'anillaw10.SaleNothing', WHERE WHAT IT READS IS OF BULK AT MOST 1048576: true; the input reads as it did. -/
def saleNothingUptoRow : OpenClaim := { program := "ytenfnakhijobkaagreat", sum := "4658d3e01434479bfcbb759189d6baba0778285143a15bd6f1caa9c37c8f4d06", func := "anil/anillaw10.SaleNothing", spec := "saleNothing", unfollowed := true, recurses := true, plainKeys := false, apart := false, narrowed := true }
def SaleNothingUptoSaid : Prop := saleNothingUptoRow.holds Tryz.pinned (OpenSpec.upto saleNothingSpec)

/-- 'anillaw10.SaleMore', WHERE WHAT IT READS IS OF BULK AT MOST 1048576: true; the input reads as it did. -/
def saleMoreUptoRow : OpenClaim := { program := "ytenfnakhijobkaagreat", sum := "4658d3e01434479bfcbb759189d6baba0778285143a15bd6f1caa9c37c8f4d06", func := "anil/anillaw10.SaleMore", spec := "saleMore", unfollowed := true, recurses := true, plainKeys := false, apart := false, narrowed := true }
def SaleMoreUptoSaid : Prop := saleMoreUptoRow.holds Tryz.pinned (OpenSpec.upto saleMoreSpec)

/-- 'anillaw10.SaleKnown', WHERE WHAT IT READS IS OF BULK AT MOST 1048576: true; the input reads as it did. -/
def saleKnownUptoRow : OpenClaim := { program := "ytenfnakhijobkaagreat", sum := "4658d3e01434479bfcbb759189d6baba0778285143a15bd6f1caa9c37c8f4d06", func := "anil/anillaw10.SaleKnown", spec := "saleKnown", unfollowed := true, recurses := true, plainKeys := false, apart := false, narrowed := true }
def SaleKnownUptoSaid : Prop := saleKnownUptoRow.holds Tryz.pinned (OpenSpec.upto saleKnownSpec)

/-- 'anillaw10.SaleWider', WHERE WHAT IT READS IS OF BULK AT MOST 1048576: true; the input reads as it did. -/
def saleWiderUptoRow : OpenClaim := { program := "ytenfnakhijobkaagreat", sum := "4658d3e01434479bfcbb759189d6baba0778285143a15bd6f1caa9c37c8f4d06", func := "anil/anillaw10.SaleWider", spec := "saleWider", unfollowed := true, recurses := true, plainKeys := false, apart := false, narrowed := true }
def SaleWiderUptoSaid : Prop := saleWiderUptoRow.holds Tryz.pinned (OpenSpec.upto saleWiderSpec)

/-- 'anillaw10.SaleDrier', WHERE WHAT IT READS IS OF BULK AT MOST 1048576: true; the input reads as it did. -/
def saleDrierUptoRow : OpenClaim := { program := "ytenfnakhijobkaagreat", sum := "4658d3e01434479bfcbb759189d6baba0778285143a15bd6f1caa9c37c8f4d06", func := "anil/anillaw10.SaleDrier", spec := "saleDrier", unfollowed := true, recurses := true, plainKeys := false, apart := false, narrowed := true }
def SaleDrierUptoSaid : Prop := saleDrierUptoRow.holds Tryz.pinned (OpenSpec.upto saleDrierSpec)

/-- 'anillaw10.SaleFirst', WHERE WHAT IT READS IS OF BULK AT MOST 1048576: true; the input reads as it did. -/
def saleFirstUptoRow : OpenClaim := { program := "ytenfnakhijobkaagreat", sum := "4658d3e01434479bfcbb759189d6baba0778285143a15bd6f1caa9c37c8f4d06", func := "anil/anillaw10.SaleFirst", spec := "saleFirst", unfollowed := true, recurses := true, plainKeys := false, apart := false, narrowed := true }
def SaleFirstUptoSaid : Prop := saleFirstUptoRow.holds Tryz.pinned (OpenSpec.upto saleFirstSpec)

/-- 'anillaw10.SaleLeft', WHERE WHAT IT READS IS OF BULK AT MOST 1048576: true; the input reads as it did. -/
def saleLeftUptoRow : OpenClaim := { program := "ytenfnakhijobkaagreat", sum := "4658d3e01434479bfcbb759189d6baba0778285143a15bd6f1caa9c37c8f4d06", func := "anil/anillaw10.SaleLeft", spec := "saleLeft", unfollowed := true, recurses := true, plainKeys := false, apart := false, narrowed := true }
def SaleLeftUptoSaid : Prop := saleLeftUptoRow.holds Tryz.pinned (OpenSpec.upto saleLeftSpec)

/-- 'anillaw10.SaleBest', WHERE WHAT IT READS IS OF BULK AT MOST 1048576: true; the input reads as it did. -/
def saleBestUptoRow : OpenClaim := { program := "ytenfnakhijobkaagreat", sum := "4658d3e01434479bfcbb759189d6baba0778285143a15bd6f1caa9c37c8f4d06", func := "anil/anillaw10.SaleBest", spec := "saleBest", unfollowed := true, recurses := true, plainKeys := false, apart := false, narrowed := true }
def SaleBestUptoSaid : Prop := saleBestUptoRow.holds Tryz.pinned (OpenSpec.upto saleBestSpec)

/-- 'anillaw10.SaleNoBetter', WHERE WHAT IT READS IS OF BULK AT MOST 1048576: true; the input reads as it did. -/
def saleNoBetterUptoRow : OpenClaim := { program := "ytenfnakhijobkaagreat", sum := "4658d3e01434479bfcbb759189d6baba0778285143a15bd6f1caa9c37c8f4d06", func := "anil/anillaw10.SaleNoBetter", spec := "saleNoBetter", unfollowed := true, recurses := true, plainKeys := false, apart := false, narrowed := true }
def SaleNoBetterUptoSaid : Prop := saleNoBetterUptoRow.holds Tryz.pinned (OpenSpec.upto saleNoBetterSpec)

/-- 'anillaw10.SalePlays', WHERE WHAT IT READS IS OF BULK AT MOST 1048576: true; the input reads as it did. -/
def salePlaysUptoRow : OpenClaim := { program := "ytenfnakhijobkaagreat", sum := "4658d3e01434479bfcbb759189d6baba0778285143a15bd6f1caa9c37c8f4d06", func := "anil/anillaw10.SalePlays", spec := "salePlays", unfollowed := true, recurses := true, plainKeys := false, apart := false, narrowed := true }
def SalePlaysUptoSaid : Prop := salePlaysUptoRow.holds Tryz.pinned (OpenSpec.upto salePlaysSpec)

/-- 'anillaw10.SaleTruth', WHERE WHAT IT READS IS OF BULK AT MOST 1048576: true; the input reads as it did. -/
def saleTruthUptoRow : OpenClaim := { program := "ytenfnakhijobkaagreat", sum := "4658d3e01434479bfcbb759189d6baba0778285143a15bd6f1caa9c37c8f4d06", func := "anil/anillaw10.SaleTruth", spec := "saleTruth", unfollowed := true, recurses := true, plainKeys := false, apart := false, narrowed := true }
def SaleTruthUptoSaid : Prop := saleTruthUptoRow.holds Tryz.pinned (OpenSpec.upto saleTruthSpec)

end Rows
end Go.Proofs.YtenfnakhijobkaaGreat
