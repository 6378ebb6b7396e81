/-
  No cell of these rows narrows 'for every input' (looked for: loops, veiled, ifaces, maps, wideKeys, modest, calm, conditions, laid).
  DERIVED. THE GIVEN ROWS OF THIS SEAT. 22 by the template 'for every input the law returns true; each argument reads behind the call as it read before'; 0 by the template 'total and deterministic' (their statements: YtcollbifdfhfoaaTotals.lean).
  GIVEN WITH THE SEED: the statements are not yours to turn. If you find one false, say at which input.
  Laid BY PROGRAM, IN A SANDBOX (cutbox-rows.mjs): the forced cells as the released guide's own fill.sh prints them over the translation 69190cd687847b4c… (all of the seat's roots in one cut). By AI agents, Wed Nov 11 2026. No macro, syntax, notation, axiom, sorry.
-/
import Derived.Test.YtcollbifdfhfoaaChecked
import GoSem.Claim
import GoSem.ClaimJoined
import GoSem.ClaimMapViews
import Derived.JoinedTies
import Derived.KernelRfl
namespace Go.Proofs.Ytcollbifdfhfoaa
/- THE CELL 'sum', in the pinned program and in every row, IS THE sha256 OF THE DUMP (.gsa) THAT YtcollbifdfhfoaaProg.lean LOADS. Nothing in Lean hashes anything: it is a label: what it is worth is what the hold of that sum in a sandbox is worth. -/
noncomputable def Try.pinned : Pinned := { name := "ytcollbifdfhfoaa", sum := "69190cd687847b4c819cbc6988c65dc318091efc218cf309d8ec7f2a593d3712", checked := Try.checked }
namespace Rows
def none {H : Type} : Left H := { results := [], args := [] }

/-- 'laws.FnExactValidBay': WHATEVER THE INPUT: true; the input reads as it did. -/
def fnExactValidBaySpec : ChangeSpec := { name := "fnExactValidBay", fn := fun _ => fun
  | [d] => { results := [.lit (.bool true)], args := [d] }
  | _ => none }
def fnExactValidBayRow : OpenClaim := { program := "ytcollbifdfhfoaa", sum := "69190cd687847b4c819cbc6988c65dc318091efc218cf309d8ec7f2a593d3712", func := "loop.example/g01400/laws.FnExactValidBay", spec := "fnExactValidBay", apart := false }
def FnExactValidBaySaid : Prop := fnExactValidBayRow.holds Try.pinned (OpenSpec.ofChange fnExactValidBaySpec)

/-- ITS FALSE NEIGHBOUR: 'it returns false'. Refute it at one input. -/
def fnExactValidBayWrong : ChangeSpec := { name := "fnExactValidBay", fn := fun _ => fun
  | [d] => { results := [.lit (.bool false)], args := [d] }
  | _ => none }
def FnExactValidBayWrongFalsely : Prop := fnExactValidBayRow.holds Try.pinned (OpenSpec.ofChange fnExactValidBayWrong)

/-- 'laws.FnExactValidBoat': WHATEVER THE INPUT: true; the input reads as it did. -/
def fnExactValidBoatSpec : ChangeSpec := { name := "fnExactValidBoat", fn := fun _ => fun
  | [d1, d2] => { results := [.lit (.bool true)], args := [d1, d2] }
  | _ => none }
def fnExactValidBoatRow : OpenClaim := { program := "ytcollbifdfhfoaa", sum := "69190cd687847b4c819cbc6988c65dc318091efc218cf309d8ec7f2a593d3712", func := "loop.example/g01400/laws.FnExactValidBoat", spec := "fnExactValidBoat", apart := false }
def FnExactValidBoatSaid : Prop := fnExactValidBoatRow.holds Try.pinned (OpenSpec.ofChange fnExactValidBoatSpec)

/-- ITS FALSE NEIGHBOUR: 'it returns false'. Refute it at one input. -/
def fnExactValidBoatWrong : ChangeSpec := { name := "fnExactValidBoat", fn := fun _ => fun
  | [d1, d2] => { results := [.lit (.bool false)], args := [d1, d2] }
  | _ => none }
def FnExactValidBoatWrongFalsely : Prop := fnExactValidBoatRow.holds Try.pinned (OpenSpec.ofChange fnExactValidBoatWrong)

/-- 'laws.FnExactSameBoats': WHATEVER THE INPUT: true; the input reads as it did. -/
def fnExactSameBoatsSpec : ChangeSpec := { name := "fnExactSameBoats", fn := fun _ => fun
  | [d1, d2] => { results := [.lit (.bool true)], args := [d1, d2] }
  | _ => none }
def fnExactSameBoatsRow : OpenClaim := { program := "ytcollbifdfhfoaa", sum := "69190cd687847b4c819cbc6988c65dc318091efc218cf309d8ec7f2a593d3712", func := "loop.example/g01400/laws.FnExactSameBoats", spec := "fnExactSameBoats", apart := false }
def FnExactSameBoatsSaid : Prop := fnExactSameBoatsRow.holds Try.pinned (OpenSpec.ofChange fnExactSameBoatsSpec)

/-- ITS FALSE NEIGHBOUR: 'it returns false'. Refute it at one input. -/
def fnExactSameBoatsWrong : ChangeSpec := { name := "fnExactSameBoats", fn := fun _ => fun
  | [d1, d2] => { results := [.lit (.bool false)], args := [d1, d2] }
  | _ => none }
def FnExactSameBoatsWrongFalsely : Prop := fnExactSameBoatsRow.holds Try.pinned (OpenSpec.ofChange fnExactSameBoatsWrong)

/-- 'laws.FnExactDeepestPlace': WHATEVER THE INPUT: true; the input reads as it did. -/
def fnExactDeepestPlaceSpec : ChangeSpec := { name := "fnExactDeepestPlace", fn := fun _ => fun
  | [d] => { results := [.lit (.bool true)], args := [d] }
  | _ => none }
def fnExactDeepestPlaceRow : OpenClaim := { program := "ytcollbifdfhfoaa", sum := "69190cd687847b4c819cbc6988c65dc318091efc218cf309d8ec7f2a593d3712", func := "loop.example/g01400/laws.FnExactDeepestPlace", spec := "fnExactDeepestPlace", apart := false }
def FnExactDeepestPlaceSaid : Prop := fnExactDeepestPlaceRow.holds Try.pinned (OpenSpec.ofChange fnExactDeepestPlaceSpec)

/-- ITS FALSE NEIGHBOUR: 'it returns false'. Refute it at one input. -/
def fnExactDeepestPlaceWrong : ChangeSpec := { name := "fnExactDeepestPlace", fn := fun _ => fun
  | [d] => { results := [.lit (.bool false)], args := [d] }
  | _ => none }
def FnExactDeepestPlaceWrongFalsely : Prop := fnExactDeepestPlaceRow.holds Try.pinned (OpenSpec.ofChange fnExactDeepestPlaceWrong)

/-- 'laws.FnExactSwingOf': WHATEVER THE INPUT: true; the input reads as it did. -/
def fnExactSwingOfSpec : ChangeSpec := { name := "fnExactSwingOf", fn := fun _ => fun
  | [d1, d2] => { results := [.lit (.bool true)], args := [d1, d2] }
  | _ => none }
def fnExactSwingOfRow : OpenClaim := { program := "ytcollbifdfhfoaa", sum := "69190cd687847b4c819cbc6988c65dc318091efc218cf309d8ec7f2a593d3712", func := "loop.example/g01400/laws.FnExactSwingOf", spec := "fnExactSwingOf", apart := false }
def FnExactSwingOfSaid : Prop := fnExactSwingOfRow.holds Try.pinned (OpenSpec.ofChange fnExactSwingOfSpec)

/-- ITS FALSE NEIGHBOUR: 'it returns false'. Refute it at one input. -/
def fnExactSwingOfWrong : ChangeSpec := { name := "fnExactSwingOf", fn := fun _ => fun
  | [d1, d2] => { results := [.lit (.bool false)], args := [d1, d2] }
  | _ => none }
def FnExactSwingOfWrongFalsely : Prop := fnExactSwingOfRow.holds Try.pinned (OpenSpec.ofChange fnExactSwingOfWrong)

/-- 'laws.FnExactReachOf': WHATEVER THE INPUT: true; the input reads as it did. -/
def fnExactReachOfSpec : ChangeSpec := { name := "fnExactReachOf", fn := fun _ => fun
  | [d1, d2] => { results := [.lit (.bool true)], args := [d1, d2] }
  | _ => none }
def fnExactReachOfRow : OpenClaim := { program := "ytcollbifdfhfoaa", sum := "69190cd687847b4c819cbc6988c65dc318091efc218cf309d8ec7f2a593d3712", func := "loop.example/g01400/laws.FnExactReachOf", spec := "fnExactReachOf", apart := false }
def FnExactReachOfSaid : Prop := fnExactReachOfRow.holds Try.pinned (OpenSpec.ofChange fnExactReachOfSpec)

/-- ITS FALSE NEIGHBOUR: 'it returns false'. Refute it at one input. -/
def fnExactReachOfWrong : ChangeSpec := { name := "fnExactReachOf", fn := fun _ => fun
  | [d1, d2] => { results := [.lit (.bool false)], args := [d1, d2] }
  | _ => none }
def FnExactReachOfWrongFalsely : Prop := fnExactReachOfRow.holds Try.pinned (OpenSpec.ofChange fnExactReachOfWrong)

/-- 'laws.FnExactMayTouch': WHATEVER THE INPUT: true; the input reads as it did. -/
def fnExactMayTouchSpec : ChangeSpec := { name := "fnExactMayTouch", fn := fun _ => fun
  | [d1, d2, d3] => { results := [.lit (.bool true)], args := [d1, d2, d3] }
  | _ => none }
def fnExactMayTouchRow : OpenClaim := { program := "ytcollbifdfhfoaa", sum := "69190cd687847b4c819cbc6988c65dc318091efc218cf309d8ec7f2a593d3712", func := "loop.example/g01400/laws.FnExactMayTouch", spec := "fnExactMayTouch", apart := false }
def FnExactMayTouchSaid : Prop := fnExactMayTouchRow.holds Try.pinned (OpenSpec.ofChange fnExactMayTouchSpec)

/-- ITS FALSE NEIGHBOUR: 'it returns false'. Refute it at one input. -/
def fnExactMayTouchWrong : ChangeSpec := { name := "fnExactMayTouch", fn := fun _ => fun
  | [d1, d2, d3] => { results := [.lit (.bool false)], args := [d1, d2, d3] }
  | _ => none }
def FnExactMayTouchWrongFalsely : Prop := fnExactMayTouchRow.holds Try.pinned (OpenSpec.ofChange fnExactMayTouchWrong)

/-- 'laws.FnExactIsSafe': WHATEVER THE INPUT: true; the input reads as it did. -/
def fnExactIsSafeSpec : ChangeSpec := { name := "fnExactIsSafe", fn := fun _ => fun
  | [d1, d2] => { results := [.lit (.bool true)], args := [d1, d2] }
  | _ => none }
def fnExactIsSafeRow : OpenClaim := { program := "ytcollbifdfhfoaa", sum := "69190cd687847b4c819cbc6988c65dc318091efc218cf309d8ec7f2a593d3712", func := "loop.example/g01400/laws.FnExactIsSafe", spec := "fnExactIsSafe", apart := false }
def FnExactIsSafeSaid : Prop := fnExactIsSafeRow.holds Try.pinned (OpenSpec.ofChange fnExactIsSafeSpec)

/-- ITS FALSE NEIGHBOUR: 'it returns false'. Refute it at one input. -/
def fnExactIsSafeWrong : ChangeSpec := { name := "fnExactIsSafe", fn := fun _ => fun
  | [d1, d2] => { results := [.lit (.bool false)], args := [d1, d2] }
  | _ => none }
def FnExactIsSafeWrongFalsely : Prop := fnExactIsSafeRow.holds Try.pinned (OpenSpec.ofChange fnExactIsSafeWrong)

/-- 'laws.FnExactSwingPlaces': WHATEVER THE INPUT: true; the input reads as it did. -/
def fnExactSwingPlacesSpec : ChangeSpec := { name := "fnExactSwingPlaces", fn := fun _ => fun
  | [d1, d2] => { results := [.lit (.bool true)], args := [d1, d2] }
  | _ => none }
def fnExactSwingPlacesRow : OpenClaim := { program := "ytcollbifdfhfoaa", sum := "69190cd687847b4c819cbc6988c65dc318091efc218cf309d8ec7f2a593d3712", func := "loop.example/g01400/laws.FnExactSwingPlaces", spec := "fnExactSwingPlaces", apart := false }
def FnExactSwingPlacesSaid : Prop := fnExactSwingPlacesRow.holds Try.pinned (OpenSpec.ofChange fnExactSwingPlacesSpec)

/-- ITS FALSE NEIGHBOUR: 'it returns false'. Refute it at one input. -/
def fnExactSwingPlacesWrong : ChangeSpec := { name := "fnExactSwingPlaces", fn := fun _ => fun
  | [d1, d2] => { results := [.lit (.bool false)], args := [d1, d2] }
  | _ => none }
def FnExactSwingPlacesWrongFalsely : Prop := fnExactSwingPlacesRow.holds Try.pinned (OpenSpec.ofChange fnExactSwingPlacesWrong)

/-- 'laws.FnExactShoalsOf': WHATEVER THE INPUT: true; the input reads as it did. -/
def fnExactShoalsOfSpec : ChangeSpec := { name := "fnExactShoalsOf", fn := fun _ => fun
  | [d1, d2] => { results := [.lit (.bool true)], args := [d1, d2] }
  | _ => none }
def fnExactShoalsOfRow : OpenClaim := { program := "ytcollbifdfhfoaa", sum := "69190cd687847b4c819cbc6988c65dc318091efc218cf309d8ec7f2a593d3712", func := "loop.example/g01400/laws.FnExactShoalsOf", spec := "fnExactShoalsOf", apart := false }
def FnExactShoalsOfSaid : Prop := fnExactShoalsOfRow.holds Try.pinned (OpenSpec.ofChange fnExactShoalsOfSpec)

/-- ITS FALSE NEIGHBOUR: 'it returns false'. Refute it at one input. -/
def fnExactShoalsOfWrong : ChangeSpec := { name := "fnExactShoalsOf", fn := fun _ => fun
  | [d1, d2] => { results := [.lit (.bool false)], args := [d1, d2] }
  | _ => none }
def FnExactShoalsOfWrongFalsely : Prop := fnExactShoalsOfRow.holds Try.pinned (OpenSpec.ofChange fnExactShoalsOfWrong)

/-- 'laws.FnExactTouchPairs': WHATEVER THE INPUT: true; the input reads as it did. -/
def fnExactTouchPairsSpec : ChangeSpec := { name := "fnExactTouchPairs", fn := fun _ => fun
  | [d1, d2] => { results := [.lit (.bool true)], args := [d1, d2] }
  | _ => none }
def fnExactTouchPairsRow : OpenClaim := { program := "ytcollbifdfhfoaa", sum := "69190cd687847b4c819cbc6988c65dc318091efc218cf309d8ec7f2a593d3712", func := "loop.example/g01400/laws.FnExactTouchPairs", spec := "fnExactTouchPairs", apart := false }
def FnExactTouchPairsSaid : Prop := fnExactTouchPairsRow.holds Try.pinned (OpenSpec.ofChange fnExactTouchPairsSpec)

/-- ITS FALSE NEIGHBOUR: 'it returns false'. Refute it at one input. -/
def fnExactTouchPairsWrong : ChangeSpec := { name := "fnExactTouchPairs", fn := fun _ => fun
  | [d1, d2] => { results := [.lit (.bool false)], args := [d1, d2] }
  | _ => none }
def FnExactTouchPairsWrongFalsely : Prop := fnExactTouchPairsRow.holds Try.pinned (OpenSpec.ofChange fnExactTouchPairsWrong)

/-- 'laws.FnExactCheckBoats': WHATEVER THE INPUT: true; the input reads as it did. -/
def fnExactCheckBoatsSpec : ChangeSpec := { name := "fnExactCheckBoats", fn := fun _ => fun
  | [d1, d2] => { results := [.lit (.bool true)], args := [d1, d2] }
  | _ => none }
def fnExactCheckBoatsRow : OpenClaim := { program := "ytcollbifdfhfoaa", sum := "69190cd687847b4c819cbc6988c65dc318091efc218cf309d8ec7f2a593d3712", func := "loop.example/g01400/laws.FnExactCheckBoats", spec := "fnExactCheckBoats", apart := false }
def FnExactCheckBoatsSaid : Prop := fnExactCheckBoatsRow.holds Try.pinned (OpenSpec.ofChange fnExactCheckBoatsSpec)

/-- ITS FALSE NEIGHBOUR: 'it returns false'. Refute it at one input. -/
def fnExactCheckBoatsWrong : ChangeSpec := { name := "fnExactCheckBoats", fn := fun _ => fun
  | [d1, d2] => { results := [.lit (.bool false)], args := [d1, d2] }
  | _ => none }
def FnExactCheckBoatsWrongFalsely : Prop := fnExactCheckBoatsRow.holds Try.pinned (OpenSpec.ofChange fnExactCheckBoatsWrong)

/-- 'laws.FnExactLongestChain': WHATEVER THE INPUT: true; the input reads as it did. -/
def fnExactLongestChainSpec : ChangeSpec := { name := "fnExactLongestChain", fn := fun _ => fun
  | [d1, d2, d3] => { results := [.lit (.bool true)], args := [d1, d2, d3] }
  | _ => none }
def fnExactLongestChainRow : OpenClaim := { program := "ytcollbifdfhfoaa", sum := "69190cd687847b4c819cbc6988c65dc318091efc218cf309d8ec7f2a593d3712", func := "loop.example/g01400/laws.FnExactLongestChain", spec := "fnExactLongestChain", apart := false }
def FnExactLongestChainSaid : Prop := fnExactLongestChainRow.holds Try.pinned (OpenSpec.ofChange fnExactLongestChainSpec)

/-- ITS FALSE NEIGHBOUR: 'it returns false'. Refute it at one input. -/
def fnExactLongestChainWrong : ChangeSpec := { name := "fnExactLongestChain", fn := fun _ => fun
  | [d1, d2, d3] => { results := [.lit (.bool false)], args := [d1, d2, d3] }
  | _ => none }
def FnExactLongestChainWrongFalsely : Prop := fnExactLongestChainRow.holds Try.pinned (OpenSpec.ofChange fnExactLongestChainWrong)

/-- 'laws.FnExactGreedyBoats': WHATEVER THE INPUT: true; the input reads as it did. -/
def fnExactGreedyBoatsSpec : ChangeSpec := { name := "fnExactGreedyBoats", fn := fun _ => fun
  | [d1, d2] => { results := [.lit (.bool true)], args := [d1, d2] }
  | _ => none }
def fnExactGreedyBoatsRow : OpenClaim := { program := "ytcollbifdfhfoaa", sum := "69190cd687847b4c819cbc6988c65dc318091efc218cf309d8ec7f2a593d3712", func := "loop.example/g01400/laws.FnExactGreedyBoats", spec := "fnExactGreedyBoats", apart := false }
def FnExactGreedyBoatsSaid : Prop := fnExactGreedyBoatsRow.holds Try.pinned (OpenSpec.ofChange fnExactGreedyBoatsSpec)

/-- ITS FALSE NEIGHBOUR: 'it returns false'. Refute it at one input. -/
def fnExactGreedyBoatsWrong : ChangeSpec := { name := "fnExactGreedyBoats", fn := fun _ => fun
  | [d1, d2] => { results := [.lit (.bool false)], args := [d1, d2] }
  | _ => none }
def FnExactGreedyBoatsWrongFalsely : Prop := fnExactGreedyBoatsRow.holds Try.pinned (OpenSpec.ofChange fnExactGreedyBoatsWrong)

/-- 'laws.FnExactMostBoats': WHATEVER THE INPUT: true; the input reads as it did. -/
def fnExactMostBoatsSpec : ChangeSpec := { name := "fnExactMostBoats", fn := fun _ => fun
  | [d1, d2] => { results := [.lit (.bool true)], args := [d1, d2] }
  | _ => none }
def fnExactMostBoatsRow : OpenClaim := { program := "ytcollbifdfhfoaa", sum := "69190cd687847b4c819cbc6988c65dc318091efc218cf309d8ec7f2a593d3712", func := "loop.example/g01400/laws.FnExactMostBoats", spec := "fnExactMostBoats", unfollowed := true, recurses := true, apart := false }
def FnExactMostBoatsSaid : Prop := fnExactMostBoatsRow.holds Try.pinned (OpenSpec.ofChange fnExactMostBoatsSpec)

/-- ITS FALSE NEIGHBOUR: 'it returns false'. Refute it at one input. -/
def fnExactMostBoatsWrong : ChangeSpec := { name := "fnExactMostBoats", fn := fun _ => fun
  | [d1, d2] => { results := [.lit (.bool false)], args := [d1, d2] }
  | _ => none }
def FnExactMostBoatsWrongFalsely : Prop := fnExactMostBoatsRow.holds Try.pinned (OpenSpec.ofChange fnExactMostBoatsWrong)

/-- 'laws.FnExactPlacesFor': WHATEVER THE INPUT: true; the input reads as it did. -/
def fnExactPlacesForSpec : ChangeSpec := { name := "fnExactPlacesFor", fn := fun _ => fun
  | [d1, d2, d3] => { results := [.lit (.bool true)], args := [d1, d2, d3] }
  | _ => none }
def fnExactPlacesForRow : OpenClaim := { program := "ytcollbifdfhfoaa", sum := "69190cd687847b4c819cbc6988c65dc318091efc218cf309d8ec7f2a593d3712", func := "loop.example/g01400/laws.FnExactPlacesFor", spec := "fnExactPlacesFor", apart := false }
def FnExactPlacesForSaid : Prop := fnExactPlacesForRow.holds Try.pinned (OpenSpec.ofChange fnExactPlacesForSpec)

/-- ITS FALSE NEIGHBOUR: 'it returns false'. Refute it at one input. -/
def fnExactPlacesForWrong : ChangeSpec := { name := "fnExactPlacesFor", fn := fun _ => fun
  | [d1, d2, d3] => { results := [.lit (.bool false)], args := [d1, d2, d3] }
  | _ => none }
def FnExactPlacesForWrongFalsely : Prop := fnExactPlacesForRow.holds Try.pinned (OpenSpec.ofChange fnExactPlacesForWrong)

/-- 'laws.FnFleets': WHATEVER THE INPUT: true; the input reads as it did. -/
def fnFleetsSpec : ChangeSpec := { name := "fnFleets", fn := fun _ => fun
  | [d1, d2] => { results := [.lit (.bool true)], args := [d1, d2] }
  | _ => none }
def fnFleetsRow : OpenClaim := { program := "ytcollbifdfhfoaa", sum := "69190cd687847b4c819cbc6988c65dc318091efc218cf309d8ec7f2a593d3712", func := "loop.example/g01400/laws.FnFleets", spec := "fnFleets", unfollowed := true, recurses := true, apart := false }
def FnFleetsSaid : Prop := fnFleetsRow.holds Try.pinned (OpenSpec.ofChange fnFleetsSpec)

/-- ITS FALSE NEIGHBOUR: 'it returns false'. Refute it at one input. -/
def fnFleetsWrong : ChangeSpec := { name := "fnFleets", fn := fun _ => fun
  | [d1, d2] => { results := [.lit (.bool false)], args := [d1, d2] }
  | _ => none }
def FnFleetsWrongFalsely : Prop := fnFleetsRow.holds Try.pinned (OpenSpec.ofChange fnFleetsWrong)

/-- 'laws.FnExactDryMinutes': WHATEVER THE INPUT: true; the input reads as it did. -/
def fnExactDryMinutesSpec : ChangeSpec := { name := "fnExactDryMinutes", fn := fun _ => fun
  | [d1, d2, d3] => { results := [.lit (.bool true)], args := [d1, d2, d3] }
  | _ => none }
def fnExactDryMinutesRow : OpenClaim := { program := "ytcollbifdfhfoaa", sum := "69190cd687847b4c819cbc6988c65dc318091efc218cf309d8ec7f2a593d3712", func := "loop.example/g01400/laws.FnExactDryMinutes", spec := "fnExactDryMinutes", apart := false }
def FnExactDryMinutesSaid : Prop := fnExactDryMinutesRow.holds Try.pinned (OpenSpec.ofChange fnExactDryMinutesSpec)

/-- ITS FALSE NEIGHBOUR: 'it returns false'. Refute it at one input. -/
def fnExactDryMinutesWrong : ChangeSpec := { name := "fnExactDryMinutes", fn := fun _ => fun
  | [d1, d2, d3] => { results := [.lit (.bool false)], args := [d1, d2, d3] }
  | _ => none }
def FnExactDryMinutesWrongFalsely : Prop := fnExactDryMinutesRow.holds Try.pinned (OpenSpec.ofChange fnExactDryMinutesWrong)

/-- 'laws.FnExactIsAfloat': WHATEVER THE INPUT: true; the input reads as it did. -/
def fnExactIsAfloatSpec : ChangeSpec := { name := "fnExactIsAfloat", fn := fun _ => fun
  | [d1, d2, d3, d4] => { results := [.lit (.bool true)], args := [d1, d2, d3, d4] }
  | _ => none }
def fnExactIsAfloatRow : OpenClaim := { program := "ytcollbifdfhfoaa", sum := "69190cd687847b4c819cbc6988c65dc318091efc218cf309d8ec7f2a593d3712", func := "loop.example/g01400/laws.FnExactIsAfloat", spec := "fnExactIsAfloat", apart := false }
def FnExactIsAfloatSaid : Prop := fnExactIsAfloatRow.holds Try.pinned (OpenSpec.ofChange fnExactIsAfloatSpec)

/-- ITS FALSE NEIGHBOUR: 'it returns false'. Refute it at one input. -/
def fnExactIsAfloatWrong : ChangeSpec := { name := "fnExactIsAfloat", fn := fun _ => fun
  | [d1, d2, d3, d4] => { results := [.lit (.bool false)], args := [d1, d2, d3, d4] }
  | _ => none }
def FnExactIsAfloatWrongFalsely : Prop := fnExactIsAfloatRow.holds Try.pinned (OpenSpec.ofChange fnExactIsAfloatWrong)

/-- 'laws.FnExactAfloatAt': WHATEVER THE INPUT: true; the input reads as it did. -/
def fnExactAfloatAtSpec : ChangeSpec := { name := "fnExactAfloatAt", fn := fun _ => fun
  | [d1, d2, d3, d4] => { results := [.lit (.bool true)], args := [d1, d2, d3, d4] }
  | _ => none }
def fnExactAfloatAtRow : OpenClaim := { program := "ytcollbifdfhfoaa", sum := "69190cd687847b4c819cbc6988c65dc318091efc218cf309d8ec7f2a593d3712", func := "loop.example/g01400/laws.FnExactAfloatAt", spec := "fnExactAfloatAt", apart := false }
def FnExactAfloatAtSaid : Prop := fnExactAfloatAtRow.holds Try.pinned (OpenSpec.ofChange fnExactAfloatAtSpec)

/-- ITS FALSE NEIGHBOUR: 'it returns false'. Refute it at one input. -/
def fnExactAfloatAtWrong : ChangeSpec := { name := "fnExactAfloatAt", fn := fun _ => fun
  | [d1, d2, d3, d4] => { results := [.lit (.bool false)], args := [d1, d2, d3, d4] }
  | _ => none }
def FnExactAfloatAtWrongFalsely : Prop := fnExactAfloatAtRow.holds Try.pinned (OpenSpec.ofChange fnExactAfloatAtWrong)

/-- 'laws.FnExactAllAfloat': WHATEVER THE INPUT: true; the input reads as it did. -/
def fnExactAllAfloatSpec : ChangeSpec := { name := "fnExactAllAfloat", fn := fun _ => fun
  | [d1, d2, d3] => { results := [.lit (.bool true)], args := [d1, d2, d3] }
  | _ => none }
def fnExactAllAfloatRow : OpenClaim := { program := "ytcollbifdfhfoaa", sum := "69190cd687847b4c819cbc6988c65dc318091efc218cf309d8ec7f2a593d3712", func := "loop.example/g01400/laws.FnExactAllAfloat", spec := "fnExactAllAfloat", unfollowed := true, recurses := true, apart := false }
def FnExactAllAfloatSaid : Prop := fnExactAllAfloatRow.holds Try.pinned (OpenSpec.ofChange fnExactAllAfloatSpec)

/-- ITS FALSE NEIGHBOUR: 'it returns false'. Refute it at one input. -/
def fnExactAllAfloatWrong : ChangeSpec := { name := "fnExactAllAfloat", fn := fun _ => fun
  | [d1, d2, d3] => { results := [.lit (.bool false)], args := [d1, d2, d3] }
  | _ => none }
def FnExactAllAfloatWrongFalsely : Prop := fnExactAllAfloatRow.holds Try.pinned (OpenSpec.ofChange fnExactAllAfloatWrong)

/-- 'laws.FnAfloat': WHATEVER THE INPUT: true; the input reads as it did. -/
def fnAfloatSpec : ChangeSpec := { name := "fnAfloat", fn := fun _ => fun
  | [d1, d2] => { results := [.lit (.bool true)], args := [d1, d2] }
  | _ => none }
def fnAfloatRow : OpenClaim := { program := "ytcollbifdfhfoaa", sum := "69190cd687847b4c819cbc6988c65dc318091efc218cf309d8ec7f2a593d3712", func := "loop.example/g01400/laws.FnAfloat", spec := "fnAfloat", unfollowed := true, recurses := true, apart := false }
def FnAfloatSaid : Prop := fnAfloatRow.holds Try.pinned (OpenSpec.ofChange fnAfloatSpec)

/-- ITS FALSE NEIGHBOUR: 'it returns false'. Refute it at one input. -/
def fnAfloatWrong : ChangeSpec := { name := "fnAfloat", fn := fun _ => fun
  | [d1, d2] => { results := [.lit (.bool false)], args := [d1, d2] }
  | _ => none }
def FnAfloatWrongFalsely : Prop := fnAfloatRow.holds Try.pinned (OpenSpec.ofChange fnAfloatWrong)

/- THE SECOND FORM. 'bulk': how many values and letters a reading holds, each counted each time it is reached (what is shared counts as often as it is met; a slice's spare places count too). A statement '..UptoSaid' is the law's where the arguments, and the package variables that the reading takes, are together of bulk at most 1048576: NARROWER than '..Said'. Prove '..Said' where nothing that the law and all that it calls make is longer than what came in: it says more and counts as full. Else prove '..UptoSaid'. A law counts once. -/
mutual
def uptoBulk {H : Type} : DataW H → Nat
  | .lit (.string bytes) => bytes.length + 1
  | .lit _ => 1
  | .nil => 1
  | .ptr d => uptoBulk d + 1
  | .slice elems spare => uptoBulkAll elems + uptoBulkAll spare + 1
  | .agg parts => uptoBulkAll parts + 1
  | .iface _ d => uptoBulk d + 1
  | .map entries => uptoBulkEntries entries + 1
  | .held _ => 1
def uptoBulkAll {H : Type} : List (DataW H) → Nat
  | [] => 0
  | d :: r => uptoBulk d + uptoBulkAll r
def uptoBulkEntries {H : Type} : List (Lit × DataW H) → Nat
  | [] => 0
  | x :: r => uptoBulkEntry x + uptoBulkEntries r
def uptoBulkEntry {H : Type} : Lit × DataW H → Nat
  | (.string bytes, d) => bytes.length + uptoBulk d + 1
  | (_, d) => uptoBulk d + 1
 end
def uptoSmall : (H : Type) → List (DataW H) → Bool := fun _ ds => decide (uptoBulkAll ds ≤ 1048576)
def OpenSpec.upto (s : _root_.Go.ChangeSpec) : _root_.Go.OpenSpec := { _root_.Go.OpenSpec.ofChange s with cond := some uptoSmall }

/-- 'laws.FnExactValidBay', WHERE WHAT IT READS IS OF BULK AT MOST 1048576: true; the input reads as it did. -/
def fnExactValidBayUptoRow : OpenClaim := { program := "ytcollbifdfhfoaa", sum := "69190cd687847b4c819cbc6988c65dc318091efc218cf309d8ec7f2a593d3712", func := "loop.example/g01400/laws.FnExactValidBay", spec := "fnExactValidBay", apart := false, narrowed := true }
def FnExactValidBayUptoSaid : Prop := fnExactValidBayUptoRow.holds Try.pinned (OpenSpec.upto fnExactValidBaySpec)

/-- 'laws.FnExactValidBoat', WHERE WHAT IT READS IS OF BULK AT MOST 1048576: true; the input reads as it did. -/
def fnExactValidBoatUptoRow : OpenClaim := { program := "ytcollbifdfhfoaa", sum := "69190cd687847b4c819cbc6988c65dc318091efc218cf309d8ec7f2a593d3712", func := "loop.example/g01400/laws.FnExactValidBoat", spec := "fnExactValidBoat", apart := false, narrowed := true }
def FnExactValidBoatUptoSaid : Prop := fnExactValidBoatUptoRow.holds Try.pinned (OpenSpec.upto fnExactValidBoatSpec)

/-- 'laws.FnExactSameBoats', WHERE WHAT IT READS IS OF BULK AT MOST 1048576: true; the input reads as it did. -/
def fnExactSameBoatsUptoRow : OpenClaim := { program := "ytcollbifdfhfoaa", sum := "69190cd687847b4c819cbc6988c65dc318091efc218cf309d8ec7f2a593d3712", func := "loop.example/g01400/laws.FnExactSameBoats", spec := "fnExactSameBoats", apart := false, narrowed := true }
def FnExactSameBoatsUptoSaid : Prop := fnExactSameBoatsUptoRow.holds Try.pinned (OpenSpec.upto fnExactSameBoatsSpec)

/-- 'laws.FnExactDeepestPlace', WHERE WHAT IT READS IS OF BULK AT MOST 1048576: true; the input reads as it did. -/
def fnExactDeepestPlaceUptoRow : OpenClaim := { program := "ytcollbifdfhfoaa", sum := "69190cd687847b4c819cbc6988c65dc318091efc218cf309d8ec7f2a593d3712", func := "loop.example/g01400/laws.FnExactDeepestPlace", spec := "fnExactDeepestPlace", apart := false, narrowed := true }
def FnExactDeepestPlaceUptoSaid : Prop := fnExactDeepestPlaceUptoRow.holds Try.pinned (OpenSpec.upto fnExactDeepestPlaceSpec)

/-- 'laws.FnExactSwingOf', WHERE WHAT IT READS IS OF BULK AT MOST 1048576: true; the input reads as it did. -/
def fnExactSwingOfUptoRow : OpenClaim := { program := "ytcollbifdfhfoaa", sum := "69190cd687847b4c819cbc6988c65dc318091efc218cf309d8ec7f2a593d3712", func := "loop.example/g01400/laws.FnExactSwingOf", spec := "fnExactSwingOf", apart := false, narrowed := true }
def FnExactSwingOfUptoSaid : Prop := fnExactSwingOfUptoRow.holds Try.pinned (OpenSpec.upto fnExactSwingOfSpec)

/-- 'laws.FnExactReachOf', WHERE WHAT IT READS IS OF BULK AT MOST 1048576: true; the input reads as it did. -/
def fnExactReachOfUptoRow : OpenClaim := { program := "ytcollbifdfhfoaa", sum := "69190cd687847b4c819cbc6988c65dc318091efc218cf309d8ec7f2a593d3712", func := "loop.example/g01400/laws.FnExactReachOf", spec := "fnExactReachOf", apart := false, narrowed := true }
def FnExactReachOfUptoSaid : Prop := fnExactReachOfUptoRow.holds Try.pinned (OpenSpec.upto fnExactReachOfSpec)

/-- 'laws.FnExactMayTouch', WHERE WHAT IT READS IS OF BULK AT MOST 1048576: true; the input reads as it did. -/
def fnExactMayTouchUptoRow : OpenClaim := { program := "ytcollbifdfhfoaa", sum := "69190cd687847b4c819cbc6988c65dc318091efc218cf309d8ec7f2a593d3712", func := "loop.example/g01400/laws.FnExactMayTouch", spec := "fnExactMayTouch", apart := false, narrowed := true }
def FnExactMayTouchUptoSaid : Prop := fnExactMayTouchUptoRow.holds Try.pinned (OpenSpec.upto fnExactMayTouchSpec)

/-- 'laws.FnExactIsSafe', WHERE WHAT IT READS IS OF BULK AT MOST 1048576: true; the input reads as it did. -/
def fnExactIsSafeUptoRow : OpenClaim := { program := "ytcollbifdfhfoaa", sum := "69190cd687847b4c819cbc6988c65dc318091efc218cf309d8ec7f2a593d3712", func := "loop.example/g01400/laws.FnExactIsSafe", spec := "fnExactIsSafe", apart := false, narrowed := true }
def FnExactIsSafeUptoSaid : Prop := fnExactIsSafeUptoRow.holds Try.pinned (OpenSpec.upto fnExactIsSafeSpec)

/-- 'laws.FnExactSwingPlaces', WHERE WHAT IT READS IS OF BULK AT MOST 1048576: true; the input reads as it did. -/
def fnExactSwingPlacesUptoRow : OpenClaim := { program := "ytcollbifdfhfoaa", sum := "69190cd687847b4c819cbc6988c65dc318091efc218cf309d8ec7f2a593d3712", func := "loop.example/g01400/laws.FnExactSwingPlaces", spec := "fnExactSwingPlaces", apart := false, narrowed := true }
def FnExactSwingPlacesUptoSaid : Prop := fnExactSwingPlacesUptoRow.holds Try.pinned (OpenSpec.upto fnExactSwingPlacesSpec)

/-- 'laws.FnExactShoalsOf', WHERE WHAT IT READS IS OF BULK AT MOST 1048576: true; the input reads as it did. -/
def fnExactShoalsOfUptoRow : OpenClaim := { program := "ytcollbifdfhfoaa", sum := "69190cd687847b4c819cbc6988c65dc318091efc218cf309d8ec7f2a593d3712", func := "loop.example/g01400/laws.FnExactShoalsOf", spec := "fnExactShoalsOf", apart := false, narrowed := true }
def FnExactShoalsOfUptoSaid : Prop := fnExactShoalsOfUptoRow.holds Try.pinned (OpenSpec.upto fnExactShoalsOfSpec)

/-- 'laws.FnExactTouchPairs', WHERE WHAT IT READS IS OF BULK AT MOST 1048576: true; the input reads as it did. -/
def fnExactTouchPairsUptoRow : OpenClaim := { program := "ytcollbifdfhfoaa", sum := "69190cd687847b4c819cbc6988c65dc318091efc218cf309d8ec7f2a593d3712", func := "loop.example/g01400/laws.FnExactTouchPairs", spec := "fnExactTouchPairs", apart := false, narrowed := true }
def FnExactTouchPairsUptoSaid : Prop := fnExactTouchPairsUptoRow.holds Try.pinned (OpenSpec.upto fnExactTouchPairsSpec)

/-- 'laws.FnExactCheckBoats', WHERE WHAT IT READS IS OF BULK AT MOST 1048576: true; the input reads as it did. -/
def fnExactCheckBoatsUptoRow : OpenClaim := { program := "ytcollbifdfhfoaa", sum := "69190cd687847b4c819cbc6988c65dc318091efc218cf309d8ec7f2a593d3712", func := "loop.example/g01400/laws.FnExactCheckBoats", spec := "fnExactCheckBoats", apart := false, narrowed := true }
def FnExactCheckBoatsUptoSaid : Prop := fnExactCheckBoatsUptoRow.holds Try.pinned (OpenSpec.upto fnExactCheckBoatsSpec)

/-- 'laws.FnExactLongestChain', WHERE WHAT IT READS IS OF BULK AT MOST 1048576: true; the input reads as it did. -/
def fnExactLongestChainUptoRow : OpenClaim := { program := "ytcollbifdfhfoaa", sum := "69190cd687847b4c819cbc6988c65dc318091efc218cf309d8ec7f2a593d3712", func := "loop.example/g01400/laws.FnExactLongestChain", spec := "fnExactLongestChain", apart := false, narrowed := true }
def FnExactLongestChainUptoSaid : Prop := fnExactLongestChainUptoRow.holds Try.pinned (OpenSpec.upto fnExactLongestChainSpec)

/-- 'laws.FnExactGreedyBoats', WHERE WHAT IT READS IS OF BULK AT MOST 1048576: true; the input reads as it did. -/
def fnExactGreedyBoatsUptoRow : OpenClaim := { program := "ytcollbifdfhfoaa", sum := "69190cd687847b4c819cbc6988c65dc318091efc218cf309d8ec7f2a593d3712", func := "loop.example/g01400/laws.FnExactGreedyBoats", spec := "fnExactGreedyBoats", apart := false, narrowed := true }
def FnExactGreedyBoatsUptoSaid : Prop := fnExactGreedyBoatsUptoRow.holds Try.pinned (OpenSpec.upto fnExactGreedyBoatsSpec)

/-- 'laws.FnExactMostBoats', WHERE WHAT IT READS IS OF BULK AT MOST 1048576: true; the input reads as it did. -/
def fnExactMostBoatsUptoRow : OpenClaim := { program := "ytcollbifdfhfoaa", sum := "69190cd687847b4c819cbc6988c65dc318091efc218cf309d8ec7f2a593d3712", func := "loop.example/g01400/laws.FnExactMostBoats", spec := "fnExactMostBoats", unfollowed := true, recurses := true, apart := false, narrowed := true }
def FnExactMostBoatsUptoSaid : Prop := fnExactMostBoatsUptoRow.holds Try.pinned (OpenSpec.upto fnExactMostBoatsSpec)

/-- 'laws.FnExactPlacesFor', WHERE WHAT IT READS IS OF BULK AT MOST 1048576: true; the input reads as it did. -/
def fnExactPlacesForUptoRow : OpenClaim := { program := "ytcollbifdfhfoaa", sum := "69190cd687847b4c819cbc6988c65dc318091efc218cf309d8ec7f2a593d3712", func := "loop.example/g01400/laws.FnExactPlacesFor", spec := "fnExactPlacesFor", apart := false, narrowed := true }
def FnExactPlacesForUptoSaid : Prop := fnExactPlacesForUptoRow.holds Try.pinned (OpenSpec.upto fnExactPlacesForSpec)

/-- 'laws.FnFleets', WHERE WHAT IT READS IS OF BULK AT MOST 1048576: true; the input reads as it did. -/
def fnFleetsUptoRow : OpenClaim := { program := "ytcollbifdfhfoaa", sum := "69190cd687847b4c819cbc6988c65dc318091efc218cf309d8ec7f2a593d3712", func := "loop.example/g01400/laws.FnFleets", spec := "fnFleets", unfollowed := true, recurses := true, apart := false, narrowed := true }
def FnFleetsUptoSaid : Prop := fnFleetsUptoRow.holds Try.pinned (OpenSpec.upto fnFleetsSpec)

/-- 'laws.FnExactDryMinutes', WHERE WHAT IT READS IS OF BULK AT MOST 1048576: true; the input reads as it did. -/
def fnExactDryMinutesUptoRow : OpenClaim := { program := "ytcollbifdfhfoaa", sum := "69190cd687847b4c819cbc6988c65dc318091efc218cf309d8ec7f2a593d3712", func := "loop.example/g01400/laws.FnExactDryMinutes", spec := "fnExactDryMinutes", apart := false, narrowed := true }
def FnExactDryMinutesUptoSaid : Prop := fnExactDryMinutesUptoRow.holds Try.pinned (OpenSpec.upto fnExactDryMinutesSpec)

/-- 'laws.FnExactIsAfloat', WHERE WHAT IT READS IS OF BULK AT MOST 1048576: true; the input reads as it did. -/
def fnExactIsAfloatUptoRow : OpenClaim := { program := "ytcollbifdfhfoaa", sum := "69190cd687847b4c819cbc6988c65dc318091efc218cf309d8ec7f2a593d3712", func := "loop.example/g01400/laws.FnExactIsAfloat", spec := "fnExactIsAfloat", apart := false, narrowed := true }
def FnExactIsAfloatUptoSaid : Prop := fnExactIsAfloatUptoRow.holds Try.pinned (OpenSpec.upto fnExactIsAfloatSpec)

/-- 'laws.FnExactAfloatAt', WHERE WHAT IT READS IS OF BULK AT MOST 1048576: true; the input reads as it did. -/
def fnExactAfloatAtUptoRow : OpenClaim := { program := "ytcollbifdfhfoaa", sum := "69190cd687847b4c819cbc6988c65dc318091efc218cf309d8ec7f2a593d3712", func := "loop.example/g01400/laws.FnExactAfloatAt", spec := "fnExactAfloatAt", apart := false, narrowed := true }
def FnExactAfloatAtUptoSaid : Prop := fnExactAfloatAtUptoRow.holds Try.pinned (OpenSpec.upto fnExactAfloatAtSpec)

/-- 'laws.FnExactAllAfloat', WHERE WHAT IT READS IS OF BULK AT MOST 1048576: true; the input reads as it did. -/
def fnExactAllAfloatUptoRow : OpenClaim := { program := "ytcollbifdfhfoaa", sum := "69190cd687847b4c819cbc6988c65dc318091efc218cf309d8ec7f2a593d3712", func := "loop.example/g01400/laws.FnExactAllAfloat", spec := "fnExactAllAfloat", unfollowed := true, recurses := true, apart := false, narrowed := true }
def FnExactAllAfloatUptoSaid : Prop := fnExactAllAfloatUptoRow.holds Try.pinned (OpenSpec.upto fnExactAllAfloatSpec)

/-- 'laws.FnAfloat', WHERE WHAT IT READS IS OF BULK AT MOST 1048576: true; the input reads as it did. -/
def fnAfloatUptoRow : OpenClaim := { program := "ytcollbifdfhfoaa", sum := "69190cd687847b4c819cbc6988c65dc318091efc218cf309d8ec7f2a593d3712", func := "loop.example/g01400/laws.FnAfloat", spec := "fnAfloat", unfollowed := true, recurses := true, apart := false, narrowed := true }
def FnAfloatUptoSaid : Prop := fnAfloatUptoRow.holds Try.pinned (OpenSpec.upto fnAfloatSpec)

end Rows
end Go.Proofs.Ytcollbifdfhfoaa
