/-
  No cell of these rows narrows 'for every input' (looked for: loops, veiled, ifaces, maps, wideKeys, modest, calm, conditions, laid).
  DERIVED. THE GIVEN ROWS OF THIS SEAT. 24 by the template 'for every input the law returns true; each argument reads behind the call as it read before'; 0 by the template 'total and deterministic' (their statements: YtaooenmkofjafaaTotals.lean).
  GIVEN WITH THE SEED: the statements are not yours to turn. If you find one false, say at which input.
  Laid BY PROGRAM, IN A SANDBOX (cutbox-rows.mjs): the forced cells as the released guide's own fill.sh prints them over the translation a482faeedf91b085… (all of the seat's roots in one cut). By AI agents, Wed Nov 11 2026. No macro, syntax, notation, axiom, sorry.
-/
import Derived.Test.YtaooenmkofjafaaChecked
import GoSem.Claim
import GoSem.ClaimJoined
import GoSem.ClaimMapViews
import Derived.JoinedTies
import Derived.KernelRfl
namespace Go.Proofs.Ytaooenmkofjafaa
/- THE CELL 'sum', in the pinned program and in every row, IS THE sha256 OF THE DUMP (.gsa) THAT YtaooenmkofjafaaProg.lean LOADS. Nothing in Lean hashes anything: it is a label: what it is worth is what the hold of that sum in a sandbox is worth. -/
noncomputable def Try.pinned : Pinned := { name := "ytaooenmkofjafaa", sum := "a482faeedf91b08515141bd95fe2ae665427262972bc86af33078232692d8421", checked := Try.checked }
namespace Rows
def none {H : Type} : Left H := { results := [], args := [] }

/-- 'vyakaranalaw04.OrderDerives': WHATEVER THE INPUT: true; the input reads as it did. -/
def orderDerivesSpec : ChangeSpec := { name := "orderDerives", fn := fun _ => fun
  | [d] => { results := [.lit (.bool true)], args := [d] }
  | _ => none }
def orderDerivesRow : OpenClaim := { program := "ytaooenmkofjafaa", sum := "a482faeedf91b08515141bd95fe2ae665427262972bc86af33078232692d8421", func := "vyakarana/vyakaranalaw04.OrderDerives", spec := "orderDerives", unfollowed := true, recurses := true, apart := false }
def OrderDerivesSaid : Prop := orderDerivesRow.holds Try.pinned (OpenSpec.ofChange orderDerivesSpec)

/-- ITS FALSE NEIGHBOUR: 'it returns false'. Refute it at one input. -/
def orderDerivesWrong : ChangeSpec := { name := "orderDerives", fn := fun _ => fun
  | [d] => { results := [.lit (.bool false)], args := [d] }
  | _ => none }
def OrderDerivesWrongFalsely : Prop := orderDerivesRow.holds Try.pinned (OpenSpec.ofChange orderDerivesWrong)

/-- 'vyakaranalaw04.OrderWinners': WHATEVER THE INPUT: true; the input reads as it did. -/
def orderWinnersSpec : ChangeSpec := { name := "orderWinners", fn := fun _ => fun
  | [d] => { results := [.lit (.bool true)], args := [d] }
  | _ => none }
def orderWinnersRow : OpenClaim := { program := "ytaooenmkofjafaa", sum := "a482faeedf91b08515141bd95fe2ae665427262972bc86af33078232692d8421", func := "vyakarana/vyakaranalaw04.OrderWinners", spec := "orderWinners", unfollowed := true, recurses := true, apart := false }
def OrderWinnersSaid : Prop := orderWinnersRow.holds Try.pinned (OpenSpec.ofChange orderWinnersSpec)

/-- ITS FALSE NEIGHBOUR: 'it returns false'. Refute it at one input. -/
def orderWinnersWrong : ChangeSpec := { name := "orderWinners", fn := fun _ => fun
  | [d] => { results := [.lit (.bool false)], args := [d] }
  | _ => none }
def OrderWinnersWrongFalsely : Prop := orderWinnersRow.holds Try.pinned (OpenSpec.ofChange orderWinnersWrong)

/-- 'vyakaranalaw04.OrderChecks': WHATEVER THE INPUT: true; the input reads as it did. -/
def orderChecksSpec : ChangeSpec := { name := "orderChecks", fn := fun _ => fun
  | [d1, d2] => { results := [.lit (.bool true)], args := [d1, d2] }
  | _ => none }
def orderChecksRow : OpenClaim := { program := "ytaooenmkofjafaa", sum := "a482faeedf91b08515141bd95fe2ae665427262972bc86af33078232692d8421", func := "vyakarana/vyakaranalaw04.OrderChecks", spec := "orderChecks", unfollowed := true, recurses := true, apart := false }
def OrderChecksSaid : Prop := orderChecksRow.holds Try.pinned (OpenSpec.ofChange orderChecksSpec)

/-- ITS FALSE NEIGHBOUR: 'it returns false'. Refute it at one input. -/
def orderChecksWrong : ChangeSpec := { name := "orderChecks", fn := fun _ => fun
  | [d1, d2] => { results := [.lit (.bool false)], args := [d1, d2] }
  | _ => none }
def OrderChecksWrongFalsely : Prop := orderChecksRow.holds Try.pinned (OpenSpec.ofChange orderChecksWrong)

/-- 'vyakaranalaw04.OrderLasts': WHATEVER THE INPUT: true; the input reads as it did. -/
def orderLastsSpec : ChangeSpec := { name := "orderLasts", fn := fun _ => fun
  | [d1, d2] => { results := [.lit (.bool true)], args := [d1, d2] }
  | _ => none }
def orderLastsRow : OpenClaim := { program := "ytaooenmkofjafaa", sum := "a482faeedf91b08515141bd95fe2ae665427262972bc86af33078232692d8421", func := "vyakarana/vyakaranalaw04.OrderLasts", spec := "orderLasts", unfollowed := true, recurses := true, apart := false }
def OrderLastsSaid : Prop := orderLastsRow.holds Try.pinned (OpenSpec.ofChange orderLastsSpec)

/-- ITS FALSE NEIGHBOUR: 'it returns false'. Refute it at one input. -/
def orderLastsWrong : ChangeSpec := { name := "orderLasts", fn := fun _ => fun
  | [d1, d2] => { results := [.lit (.bool false)], args := [d1, d2] }
  | _ => none }
def OrderLastsWrongFalsely : Prop := orderLastsRow.holds Try.pinned (OpenSpec.ofChange orderLastsWrong)

/-- 'vyakaranalaw04.OrderBeats': WHATEVER THE INPUT: true; the input reads as it did. -/
def orderBeatsSpec : ChangeSpec := { name := "orderBeats", fn := fun _ => fun
  | [d1, d2] => { results := [.lit (.bool true)], args := [d1, d2] }
  | _ => none }
def orderBeatsRow : OpenClaim := { program := "ytaooenmkofjafaa", sum := "a482faeedf91b08515141bd95fe2ae665427262972bc86af33078232692d8421", func := "vyakarana/vyakaranalaw04.OrderBeats", spec := "orderBeats", unfollowed := true, recurses := true, apart := false }
def OrderBeatsSaid : Prop := orderBeatsRow.holds Try.pinned (OpenSpec.ofChange orderBeatsSpec)

/-- ITS FALSE NEIGHBOUR: 'it returns false'. Refute it at one input. -/
def orderBeatsWrong : ChangeSpec := { name := "orderBeats", fn := fun _ => fun
  | [d1, d2] => { results := [.lit (.bool false)], args := [d1, d2] }
  | _ => none }
def OrderBeatsWrongFalsely : Prop := orderBeatsRow.holds Try.pinned (OpenSpec.ofChange orderBeatsWrong)

/-- 'vyakaranalaw04.OrderDecides': WHATEVER THE INPUT: true; the input reads as it did. -/
def orderDecidesSpec : ChangeSpec := { name := "orderDecides", fn := fun _ => fun
  | [d1, d2, d3] => { results := [.lit (.bool true)], args := [d1, d2, d3] }
  | _ => none }
def orderDecidesRow : OpenClaim := { program := "ytaooenmkofjafaa", sum := "a482faeedf91b08515141bd95fe2ae665427262972bc86af33078232692d8421", func := "vyakarana/vyakaranalaw04.OrderDecides", spec := "orderDecides", unfollowed := true, recurses := true, apart := false }
def OrderDecidesSaid : Prop := orderDecidesRow.holds Try.pinned (OpenSpec.ofChange orderDecidesSpec)

/-- ITS FALSE NEIGHBOUR: 'it returns false'. Refute it at one input. -/
def orderDecidesWrong : ChangeSpec := { name := "orderDecides", fn := fun _ => fun
  | [d1, d2, d3] => { results := [.lit (.bool false)], args := [d1, d2, d3] }
  | _ => none }
def OrderDecidesWrongFalsely : Prop := orderDecidesRow.holds Try.pinned (OpenSpec.ofChange orderDecidesWrong)

/-- 'vyakaranalaw04.OrderDiffers': WHATEVER THE INPUT: true; the input reads as it did. -/
def orderDiffersSpec : ChangeSpec := { name := "orderDiffers", fn := fun _ => fun
  | [d1, d2] => { results := [.lit (.bool true)], args := [d1, d2] }
  | _ => none }
def orderDiffersRow : OpenClaim := { program := "ytaooenmkofjafaa", sum := "a482faeedf91b08515141bd95fe2ae665427262972bc86af33078232692d8421", func := "vyakarana/vyakaranalaw04.OrderDiffers", spec := "orderDiffers", unfollowed := true, recurses := true, apart := false }
def OrderDiffersSaid : Prop := orderDiffersRow.holds Try.pinned (OpenSpec.ofChange orderDiffersSpec)

/-- ITS FALSE NEIGHBOUR: 'it returns false'. Refute it at one input. -/
def orderDiffersWrong : ChangeSpec := { name := "orderDiffers", fn := fun _ => fun
  | [d1, d2] => { results := [.lit (.bool false)], args := [d1, d2] }
  | _ => none }
def OrderDiffersWrongFalsely : Prop := orderDiffersRow.holds Try.pinned (OpenSpec.ofChange orderDiffersWrong)

/-- 'vyakaranalaw04.OrderGrounds': WHATEVER THE INPUT: true; the input reads as it did. -/
def orderGroundsSpec : ChangeSpec := { name := "orderGrounds", fn := fun _ => fun
  | [d1, d2] => { results := [.lit (.bool true)], args := [d1, d2] }
  | _ => none }
def orderGroundsRow : OpenClaim := { program := "ytaooenmkofjafaa", sum := "a482faeedf91b08515141bd95fe2ae665427262972bc86af33078232692d8421", func := "vyakarana/vyakaranalaw04.OrderGrounds", spec := "orderGrounds", unfollowed := true, recurses := true, apart := false }
def OrderGroundsSaid : Prop := orderGroundsRow.holds Try.pinned (OpenSpec.ofChange orderGroundsSpec)

/-- ITS FALSE NEIGHBOUR: 'it returns false'. Refute it at one input. -/
def orderGroundsWrong : ChangeSpec := { name := "orderGrounds", fn := fun _ => fun
  | [d1, d2] => { results := [.lit (.bool false)], args := [d1, d2] }
  | _ => none }
def OrderGroundsWrongFalsely : Prop := orderGroundsRow.holds Try.pinned (OpenSpec.ofChange orderGroundsWrong)

/-- 'vyakaranalaw04.OrderBases': WHATEVER THE INPUT: true; the input reads as it did. -/
def orderBasesSpec : ChangeSpec := { name := "orderBases", fn := fun _ => fun
  | [d1, d2] => { results := [.lit (.bool true)], args := [d1, d2] }
  | _ => none }
def orderBasesRow : OpenClaim := { program := "ytaooenmkofjafaa", sum := "a482faeedf91b08515141bd95fe2ae665427262972bc86af33078232692d8421", func := "vyakarana/vyakaranalaw04.OrderBases", spec := "orderBases", unfollowed := true, recurses := true, apart := false }
def OrderBasesSaid : Prop := orderBasesRow.holds Try.pinned (OpenSpec.ofChange orderBasesSpec)

/-- ITS FALSE NEIGHBOUR: 'it returns false'. Refute it at one input. -/
def orderBasesWrong : ChangeSpec := { name := "orderBases", fn := fun _ => fun
  | [d1, d2] => { results := [.lit (.bool false)], args := [d1, d2] }
  | _ => none }
def OrderBasesWrongFalsely : Prop := orderBasesRow.holds Try.pinned (OpenSpec.ofChange orderBasesWrong)

/-- 'vyakaranalaw04.OrderWeighs': WHATEVER THE INPUT: true; the input reads as it did. -/
def orderWeighsSpec : ChangeSpec := { name := "orderWeighs", fn := fun _ => fun
  | [d] => { results := [.lit (.bool true)], args := [d] }
  | _ => none }
def orderWeighsRow : OpenClaim := { program := "ytaooenmkofjafaa", sum := "a482faeedf91b08515141bd95fe2ae665427262972bc86af33078232692d8421", func := "vyakarana/vyakaranalaw04.OrderWeighs", spec := "orderWeighs", unfollowed := true, recurses := true, apart := false }
def OrderWeighsSaid : Prop := orderWeighsRow.holds Try.pinned (OpenSpec.ofChange orderWeighsSpec)

/-- ITS FALSE NEIGHBOUR: 'it returns false'. Refute it at one input. -/
def orderWeighsWrong : ChangeSpec := { name := "orderWeighs", fn := fun _ => fun
  | [d] => { results := [.lit (.bool false)], args := [d] }
  | _ => none }
def OrderWeighsWrongFalsely : Prop := orderWeighsRow.holds Try.pinned (OpenSpec.ofChange orderWeighsWrong)

/-- 'vyakaranatop.TopRules': WHATEVER THE INPUT: true; the input reads as it did. -/
def topRulesSpec : ChangeSpec := { name := "topRules", fn := fun _ => fun
  | [d1, d2] => { results := [.lit (.bool true)], args := [d1, d2] }
  | _ => none }
def topRulesRow : OpenClaim := { program := "ytaooenmkofjafaa", sum := "a482faeedf91b08515141bd95fe2ae665427262972bc86af33078232692d8421", func := "vyakarana/vyakaranatop.TopRules", spec := "topRules", unfollowed := true, recurses := true, apart := false }
def TopRulesSaid : Prop := topRulesRow.holds Try.pinned (OpenSpec.ofChange topRulesSpec)

/-- ITS FALSE NEIGHBOUR: 'it returns false'. Refute it at one input. -/
def topRulesWrong : ChangeSpec := { name := "topRules", fn := fun _ => fun
  | [d1, d2] => { results := [.lit (.bool false)], args := [d1, d2] }
  | _ => none }
def TopRulesWrongFalsely : Prop := topRulesRow.holds Try.pinned (OpenSpec.ofChange topRulesWrong)

/-- 'vyakaranatop.TopOrders': WHATEVER THE INPUT: true; the input reads as it did. -/
def topOrdersSpec : ChangeSpec := { name := "topOrders", fn := fun _ => fun
  | [d1, d2] => { results := [.lit (.bool true)], args := [d1, d2] }
  | _ => none }
def topOrdersRow : OpenClaim := { program := "ytaooenmkofjafaa", sum := "a482faeedf91b08515141bd95fe2ae665427262972bc86af33078232692d8421", func := "vyakarana/vyakaranatop.TopOrders", spec := "topOrders", unfollowed := true, recurses := true, apart := false }
def TopOrdersSaid : Prop := topOrdersRow.holds Try.pinned (OpenSpec.ofChange topOrdersSpec)

/-- ITS FALSE NEIGHBOUR: 'it returns false'. Refute it at one input. -/
def topOrdersWrong : ChangeSpec := { name := "topOrders", fn := fun _ => fun
  | [d1, d2] => { results := [.lit (.bool false)], args := [d1, d2] }
  | _ => none }
def TopOrdersWrongFalsely : Prop := topOrdersRow.holds Try.pinned (OpenSpec.ofChange topOrdersWrong)

/-- 'vyakaranalaw03.FeedReaches': WHATEVER THE INPUT: true; the input reads as it did. -/
def feedReachesSpec : ChangeSpec := { name := "feedReaches", fn := fun _ => fun
  | [d1, d2] => { results := [.lit (.bool true)], args := [d1, d2] }
  | _ => none }
def feedReachesRow : OpenClaim := { program := "ytaooenmkofjafaa", sum := "a482faeedf91b08515141bd95fe2ae665427262972bc86af33078232692d8421", func := "vyakarana/vyakaranalaw03.FeedReaches", spec := "feedReaches", unfollowed := true, recurses := true, apart := false }
def FeedReachesSaid : Prop := feedReachesRow.holds Try.pinned (OpenSpec.ofChange feedReachesSpec)

/-- ITS FALSE NEIGHBOUR: 'it returns false'. Refute it at one input. -/
def feedReachesWrong : ChangeSpec := { name := "feedReaches", fn := fun _ => fun
  | [d1, d2] => { results := [.lit (.bool false)], args := [d1, d2] }
  | _ => none }
def FeedReachesWrongFalsely : Prop := feedReachesRow.holds Try.pinned (OpenSpec.ofChange feedReachesWrong)

/-- 'vyakaranalaw03.FeedNexts': WHATEVER THE INPUT: true; the input reads as it did. -/
def feedNextsSpec : ChangeSpec := { name := "feedNexts", fn := fun _ => fun
  | [d1, d2] => { results := [.lit (.bool true)], args := [d1, d2] }
  | _ => none }
def feedNextsRow : OpenClaim := { program := "ytaooenmkofjafaa", sum := "a482faeedf91b08515141bd95fe2ae665427262972bc86af33078232692d8421", func := "vyakarana/vyakaranalaw03.FeedNexts", spec := "feedNexts", unfollowed := true, recurses := true, apart := false }
def FeedNextsSaid : Prop := feedNextsRow.holds Try.pinned (OpenSpec.ofChange feedNextsSpec)

/-- ITS FALSE NEIGHBOUR: 'it returns false'. Refute it at one input. -/
def feedNextsWrong : ChangeSpec := { name := "feedNexts", fn := fun _ => fun
  | [d1, d2] => { results := [.lit (.bool false)], args := [d1, d2] }
  | _ => none }
def FeedNextsWrongFalsely : Prop := feedNextsRow.holds Try.pinned (OpenSpec.ofChange feedNextsWrong)

/-- 'vyakaranalaw03.FeedSteps': WHATEVER THE INPUT: true; the input reads as it did. -/
def feedStepsSpec : ChangeSpec := { name := "feedSteps", fn := fun _ => fun
  | [d1, d2] => { results := [.lit (.bool true)], args := [d1, d2] }
  | _ => none }
def feedStepsRow : OpenClaim := { program := "ytaooenmkofjafaa", sum := "a482faeedf91b08515141bd95fe2ae665427262972bc86af33078232692d8421", func := "vyakarana/vyakaranalaw03.FeedSteps", spec := "feedSteps", unfollowed := true, recurses := true, apart := false }
def FeedStepsSaid : Prop := feedStepsRow.holds Try.pinned (OpenSpec.ofChange feedStepsSpec)

/-- ITS FALSE NEIGHBOUR: 'it returns false'. Refute it at one input. -/
def feedStepsWrong : ChangeSpec := { name := "feedSteps", fn := fun _ => fun
  | [d1, d2] => { results := [.lit (.bool false)], args := [d1, d2] }
  | _ => none }
def FeedStepsWrongFalsely : Prop := feedStepsRow.holds Try.pinned (OpenSpec.ofChange feedStepsWrong)

/-- 'vyakaranatop.TopFeeds': WHATEVER THE INPUT: true; the input reads as it did. -/
def topFeedsSpec : ChangeSpec := { name := "topFeeds", fn := fun _ => fun
  | [d1, d2, d3] => { results := [.lit (.bool true)], args := [d1, d2, d3] }
  | _ => none }
def topFeedsRow : OpenClaim := { program := "ytaooenmkofjafaa", sum := "a482faeedf91b08515141bd95fe2ae665427262972bc86af33078232692d8421", func := "vyakarana/vyakaranatop.TopFeeds", spec := "topFeeds", unfollowed := true, recurses := true, apart := false }
def TopFeedsSaid : Prop := topFeedsRow.holds Try.pinned (OpenSpec.ofChange topFeedsSpec)

/-- ITS FALSE NEIGHBOUR: 'it returns false'. Refute it at one input. -/
def topFeedsWrong : ChangeSpec := { name := "topFeeds", fn := fun _ => fun
  | [d1, d2, d3] => { results := [.lit (.bool false)], args := [d1, d2, d3] }
  | _ => none }
def TopFeedsWrongFalsely : Prop := topFeedsRow.holds Try.pinned (OpenSpec.ofChange topFeedsWrong)

/-- 'vyakaranalaw03.FeedWeights': WHATEVER THE INPUT: true; the input reads as it did. -/
def feedWeightsSpec : ChangeSpec := { name := "feedWeights", fn := fun _ => fun
  | [d] => { results := [.lit (.bool true)], args := [d] }
  | _ => none }
def feedWeightsRow : OpenClaim := { program := "ytaooenmkofjafaa", sum := "a482faeedf91b08515141bd95fe2ae665427262972bc86af33078232692d8421", func := "vyakarana/vyakaranalaw03.FeedWeights", spec := "feedWeights", unfollowed := true, recurses := true, apart := false }
def FeedWeightsSaid : Prop := feedWeightsRow.holds Try.pinned (OpenSpec.ofChange feedWeightsSpec)

/-- ITS FALSE NEIGHBOUR: 'it returns false'. Refute it at one input. -/
def feedWeightsWrong : ChangeSpec := { name := "feedWeights", fn := fun _ => fun
  | [d] => { results := [.lit (.bool false)], args := [d] }
  | _ => none }
def FeedWeightsWrongFalsely : Prop := feedWeightsRow.holds Try.pinned (OpenSpec.ofChange feedWeightsWrong)

/-- 'vyakaranalaw03.FeedPaths': WHATEVER THE INPUT: true; the input reads as it did. -/
def feedPathsSpec : ChangeSpec := { name := "feedPaths", fn := fun _ => fun
  | [d1, d2, d3] => { results := [.lit (.bool true)], args := [d1, d2, d3] }
  | _ => none }
def feedPathsRow : OpenClaim := { program := "ytaooenmkofjafaa", sum := "a482faeedf91b08515141bd95fe2ae665427262972bc86af33078232692d8421", func := "vyakarana/vyakaranalaw03.FeedPaths", spec := "feedPaths", unfollowed := true, recurses := true, apart := false }
def FeedPathsSaid : Prop := feedPathsRow.holds Try.pinned (OpenSpec.ofChange feedPathsSpec)

/-- ITS FALSE NEIGHBOUR: 'it returns false'. Refute it at one input. -/
def feedPathsWrong : ChangeSpec := { name := "feedPaths", fn := fun _ => fun
  | [d1, d2, d3] => { results := [.lit (.bool false)], args := [d1, d2, d3] }
  | _ => none }
def FeedPathsWrongFalsely : Prop := feedPathsRow.holds Try.pinned (OpenSpec.ofChange feedPathsWrong)

/-- 'vyakaranalaw03.FeedFinds': WHATEVER THE INPUT: true; the input reads as it did. -/
def feedFindsSpec : ChangeSpec := { name := "feedFinds", fn := fun _ => fun
  | [d1, d2, d3] => { results := [.lit (.bool true)], args := [d1, d2, d3] }
  | _ => none }
def feedFindsRow : OpenClaim := { program := "ytaooenmkofjafaa", sum := "a482faeedf91b08515141bd95fe2ae665427262972bc86af33078232692d8421", func := "vyakarana/vyakaranalaw03.FeedFinds", spec := "feedFinds", unfollowed := true, recurses := true, apart := false }
def FeedFindsSaid : Prop := feedFindsRow.holds Try.pinned (OpenSpec.ofChange feedFindsSpec)

/-- ITS FALSE NEIGHBOUR: 'it returns false'. Refute it at one input. -/
def feedFindsWrong : ChangeSpec := { name := "feedFinds", fn := fun _ => fun
  | [d1, d2, d3] => { results := [.lit (.bool false)], args := [d1, d2, d3] }
  | _ => none }
def FeedFindsWrongFalsely : Prop := feedFindsRow.holds Try.pinned (OpenSpec.ofChange feedFindsWrong)

/-- 'vyakaranalaw03.FeedWithout': WHATEVER THE INPUT: true; the input reads as it did. -/
def feedWithoutSpec : ChangeSpec := { name := "feedWithout", fn := fun _ => fun
  | [d1, d2, d3] => { results := [.lit (.bool true)], args := [d1, d2, d3] }
  | _ => none }
def feedWithoutRow : OpenClaim := { program := "ytaooenmkofjafaa", sum := "a482faeedf91b08515141bd95fe2ae665427262972bc86af33078232692d8421", func := "vyakarana/vyakaranalaw03.FeedWithout", spec := "feedWithout", unfollowed := true, recurses := true, apart := false }
def FeedWithoutSaid : Prop := feedWithoutRow.holds Try.pinned (OpenSpec.ofChange feedWithoutSpec)

/-- ITS FALSE NEIGHBOUR: 'it returns false'. Refute it at one input. -/
def feedWithoutWrong : ChangeSpec := { name := "feedWithout", fn := fun _ => fun
  | [d1, d2, d3] => { results := [.lit (.bool false)], args := [d1, d2, d3] }
  | _ => none }
def FeedWithoutWrongFalsely : Prop := feedWithoutRow.holds Try.pinned (OpenSpec.ofChange feedWithoutWrong)

/-- 'vyakaranalaw03.FeedJoins': WHATEVER THE INPUT: true; the input reads as it did. -/
def feedJoinsSpec : ChangeSpec := { name := "feedJoins", fn := fun _ => fun
  | [d1, d2, d3] => { results := [.lit (.bool true)], args := [d1, d2, d3] }
  | _ => none }
def feedJoinsRow : OpenClaim := { program := "ytaooenmkofjafaa", sum := "a482faeedf91b08515141bd95fe2ae665427262972bc86af33078232692d8421", func := "vyakarana/vyakaranalaw03.FeedJoins", spec := "feedJoins", unfollowed := true, recurses := true, apart := false }
def FeedJoinsSaid : Prop := feedJoinsRow.holds Try.pinned (OpenSpec.ofChange feedJoinsSpec)

/-- ITS FALSE NEIGHBOUR: 'it returns false'. Refute it at one input. -/
def feedJoinsWrong : ChangeSpec := { name := "feedJoins", fn := fun _ => fun
  | [d1, d2, d3] => { results := [.lit (.bool false)], args := [d1, d2, d3] }
  | _ => none }
def FeedJoinsWrongFalsely : Prop := feedJoinsRow.holds Try.pinned (OpenSpec.ofChange feedJoinsWrong)

/-- 'vyakaranalaw03.FeedUnused': WHATEVER THE INPUT: true; the input reads as it did. -/
def feedUnusedSpec : ChangeSpec := { name := "feedUnused", fn := fun _ => fun
  | [d1, d2, d3] => { results := [.lit (.bool true)], args := [d1, d2, d3] }
  | _ => none }
def feedUnusedRow : OpenClaim := { program := "ytaooenmkofjafaa", sum := "a482faeedf91b08515141bd95fe2ae665427262972bc86af33078232692d8421", func := "vyakarana/vyakaranalaw03.FeedUnused", spec := "feedUnused", unfollowed := true, recurses := true, apart := false }
def FeedUnusedSaid : Prop := feedUnusedRow.holds Try.pinned (OpenSpec.ofChange feedUnusedSpec)

/-- ITS FALSE NEIGHBOUR: 'it returns false'. Refute it at one input. -/
def feedUnusedWrong : ChangeSpec := { name := "feedUnused", fn := fun _ => fun
  | [d1, d2, d3] => { results := [.lit (.bool false)], args := [d1, d2, d3] }
  | _ => none }
def FeedUnusedWrongFalsely : Prop := feedUnusedRow.holds Try.pinned (OpenSpec.ofChange feedUnusedWrong)

/-- 'vyakaranalaw03.FeedHolds': WHATEVER THE INPUT: true; the input reads as it did. -/
def feedHoldsSpec : ChangeSpec := { name := "feedHolds", fn := fun _ => fun
  | [d1, d2, d3] => { results := [.lit (.bool true)], args := [d1, d2, d3] }
  | _ => none }
def feedHoldsRow : OpenClaim := { program := "ytaooenmkofjafaa", sum := "a482faeedf91b08515141bd95fe2ae665427262972bc86af33078232692d8421", func := "vyakarana/vyakaranalaw03.FeedHolds", spec := "feedHolds", unfollowed := true, recurses := true, apart := false }
def FeedHoldsSaid : Prop := feedHoldsRow.holds Try.pinned (OpenSpec.ofChange feedHoldsSpec)

/-- ITS FALSE NEIGHBOUR: 'it returns false'. Refute it at one input. -/
def feedHoldsWrong : ChangeSpec := { name := "feedHolds", fn := fun _ => fun
  | [d1, d2, d3] => { results := [.lit (.bool false)], args := [d1, d2, d3] }
  | _ => none }
def FeedHoldsWrongFalsely : Prop := feedHoldsRow.holds Try.pinned (OpenSpec.ofChange feedHoldsWrong)

/-- 'vyakaranalaw04.OrderPaths': WHATEVER THE INPUT: true; the input reads as it did. -/
def orderPathsSpec : ChangeSpec := { name := "orderPaths", fn := fun _ => fun
  | [d] => { results := [.lit (.bool true)], args := [d] }
  | _ => none }
def orderPathsRow : OpenClaim := { program := "ytaooenmkofjafaa", sum := "a482faeedf91b08515141bd95fe2ae665427262972bc86af33078232692d8421", func := "vyakarana/vyakaranalaw04.OrderPaths", spec := "orderPaths", unfollowed := true, recurses := true, apart := false }
def OrderPathsSaid : Prop := orderPathsRow.holds Try.pinned (OpenSpec.ofChange orderPathsSpec)

/-- ITS FALSE NEIGHBOUR: 'it returns false'. Refute it at one input. -/
def orderPathsWrong : ChangeSpec := { name := "orderPaths", fn := fun _ => fun
  | [d] => { results := [.lit (.bool false)], args := [d] }
  | _ => none }
def OrderPathsWrongFalsely : Prop := orderPathsRow.holds Try.pinned (OpenSpec.ofChange orderPathsWrong)

/- THE SECOND FORM. 'bulk': how many values and letters a reading holds, each counted each time it is reached (what is shared counts as often as it is met; a slice's spare places count too). A statement '..UptoSaid' is the law's where the arguments, and the package variables that the reading takes, are together of bulk at most 1048576: NARROWER than '..Said'. Prove '..Said' where nothing that the law and all that it calls make is longer than what came in: it says more and counts as full. Else prove '..UptoSaid'. A law counts once. -/
mutual
def uptoBulk {H : Type} : DataW H → Nat
  | .lit (.string bytes) => bytes.length + 1
  | .lit _ => 1
  | .nil => 1
  | .ptr d => uptoBulk d + 1
  | .slice elems spare => uptoBulkAll elems + uptoBulkAll spare + 1
  | .agg parts => uptoBulkAll parts + 1
  | .iface _ d => uptoBulk d + 1
  | .map entries => uptoBulkEntries entries + 1
  | .held _ => 1
def uptoBulkAll {H : Type} : List (DataW H) → Nat
  | [] => 0
  | d :: r => uptoBulk d + uptoBulkAll r
def uptoBulkEntries {H : Type} : List (Lit × DataW H) → Nat
  | [] => 0
  | x :: r => uptoBulkEntry x + uptoBulkEntries r
def uptoBulkEntry {H : Type} : Lit × DataW H → Nat
  | (.string bytes, d) => bytes.length + uptoBulk d + 1
  | (_, d) => uptoBulk d + 1
 end
def uptoSmall : (H : Type) → List (DataW H) → Bool := fun _ ds => decide (uptoBulkAll ds ≤ 1048576)
def OpenSpec.upto (s : _root_.Go.ChangeSpec) : _root_.Go.OpenSpec := { _root_.Go.OpenSpec.ofChange s with cond := some uptoSmall }

/-- 'vyakaranalaw04.OrderDerives', WHERE WHAT IT READS IS OF BULK AT MOST 1048576: true; the input reads as it did. -/
def orderDerivesUptoRow : OpenClaim := { program := "ytaooenmkofjafaa", sum := "a482faeedf91b08515141bd95fe2ae665427262972bc86af33078232692d8421", func := "vyakarana/vyakaranalaw04.OrderDerives", spec := "orderDerives", unfollowed := true, recurses := true, apart := false, narrowed := true }
def OrderDerivesUptoSaid : Prop := orderDerivesUptoRow.holds Try.pinned (OpenSpec.upto orderDerivesSpec)

/-- 'vyakaranalaw04.OrderWinners', WHERE WHAT IT READS IS OF BULK AT MOST 1048576: true; the input reads as it did. -/
def orderWinnersUptoRow : OpenClaim := { program := "ytaooenmkofjafaa", sum := "a482faeedf91b08515141bd95fe2ae665427262972bc86af33078232692d8421", func := "vyakarana/vyakaranalaw04.OrderWinners", spec := "orderWinners", unfollowed := true, recurses := true, apart := false, narrowed := true }
def OrderWinnersUptoSaid : Prop := orderWinnersUptoRow.holds Try.pinned (OpenSpec.upto orderWinnersSpec)

/-- 'vyakaranalaw04.OrderChecks', WHERE WHAT IT READS IS OF BULK AT MOST 1048576: true; the input reads as it did. -/
def orderChecksUptoRow : OpenClaim := { program := "ytaooenmkofjafaa", sum := "a482faeedf91b08515141bd95fe2ae665427262972bc86af33078232692d8421", func := "vyakarana/vyakaranalaw04.OrderChecks", spec := "orderChecks", unfollowed := true, recurses := true, apart := false, narrowed := true }
def OrderChecksUptoSaid : Prop := orderChecksUptoRow.holds Try.pinned (OpenSpec.upto orderChecksSpec)

/-- 'vyakaranalaw04.OrderLasts', WHERE WHAT IT READS IS OF BULK AT MOST 1048576: true; the input reads as it did. -/
def orderLastsUptoRow : OpenClaim := { program := "ytaooenmkofjafaa", sum := "a482faeedf91b08515141bd95fe2ae665427262972bc86af33078232692d8421", func := "vyakarana/vyakaranalaw04.OrderLasts", spec := "orderLasts", unfollowed := true, recurses := true, apart := false, narrowed := true }
def OrderLastsUptoSaid : Prop := orderLastsUptoRow.holds Try.pinned (OpenSpec.upto orderLastsSpec)

/-- 'vyakaranalaw04.OrderBeats', WHERE WHAT IT READS IS OF BULK AT MOST 1048576: true; the input reads as it did. -/
def orderBeatsUptoRow : OpenClaim := { program := "ytaooenmkofjafaa", sum := "a482faeedf91b08515141bd95fe2ae665427262972bc86af33078232692d8421", func := "vyakarana/vyakaranalaw04.OrderBeats", spec := "orderBeats", unfollowed := true, recurses := true, apart := false, narrowed := true }
def OrderBeatsUptoSaid : Prop := orderBeatsUptoRow.holds Try.pinned (OpenSpec.upto orderBeatsSpec)

/-- 'vyakaranalaw04.OrderDecides', WHERE WHAT IT READS IS OF BULK AT MOST 1048576: true; the input reads as it did. -/
def orderDecidesUptoRow : OpenClaim := { program := "ytaooenmkofjafaa", sum := "a482faeedf91b08515141bd95fe2ae665427262972bc86af33078232692d8421", func := "vyakarana/vyakaranalaw04.OrderDecides", spec := "orderDecides", unfollowed := true, recurses := true, apart := false, narrowed := true }
def OrderDecidesUptoSaid : Prop := orderDecidesUptoRow.holds Try.pinned (OpenSpec.upto orderDecidesSpec)

/-- 'vyakaranalaw04.OrderDiffers', WHERE WHAT IT READS IS OF BULK AT MOST 1048576: true; the input reads as it did. -/
def orderDiffersUptoRow : OpenClaim := { program := "ytaooenmkofjafaa", sum := "a482faeedf91b08515141bd95fe2ae665427262972bc86af33078232692d8421", func := "vyakarana/vyakaranalaw04.OrderDiffers", spec := "orderDiffers", unfollowed := true, recurses := true, apart := false, narrowed := true }
def OrderDiffersUptoSaid : Prop := orderDiffersUptoRow.holds Try.pinned (OpenSpec.upto orderDiffersSpec)

/-- 'vyakaranalaw04.OrderGrounds', WHERE WHAT IT READS IS OF BULK AT MOST 1048576: true; the input reads as it did. -/
def orderGroundsUptoRow : OpenClaim := { program := "ytaooenmkofjafaa", sum := "a482faeedf91b08515141bd95fe2ae665427262972bc86af33078232692d8421", func := "vyakarana/vyakaranalaw04.OrderGrounds", spec := "orderGrounds", unfollowed := true, recurses := true, apart := false, narrowed := true }
def OrderGroundsUptoSaid : Prop := orderGroundsUptoRow.holds Try.pinned (OpenSpec.upto orderGroundsSpec)

/-- 'vyakaranalaw04.OrderBases', WHERE WHAT IT READS IS OF BULK AT MOST 1048576: true; the input reads as it did. -/
def orderBasesUptoRow : OpenClaim := { program := "ytaooenmkofjafaa", sum := "a482faeedf91b08515141bd95fe2ae665427262972bc86af33078232692d8421", func := "vyakarana/vyakaranalaw04.OrderBases", spec := "orderBases", unfollowed := true, recurses := true, apart := false, narrowed := true }
def OrderBasesUptoSaid : Prop := orderBasesUptoRow.holds Try.pinned (OpenSpec.upto orderBasesSpec)

/-- 'vyakaranalaw04.OrderWeighs', WHERE WHAT IT READS IS OF BULK AT MOST 1048576: true; the input reads as it did. -/
def orderWeighsUptoRow : OpenClaim := { program := "ytaooenmkofjafaa", sum := "a482faeedf91b08515141bd95fe2ae665427262972bc86af33078232692d8421", func := "vyakarana/vyakaranalaw04.OrderWeighs", spec := "orderWeighs", unfollowed := true, recurses := true, apart := false, narrowed := true }
def OrderWeighsUptoSaid : Prop := orderWeighsUptoRow.holds Try.pinned (OpenSpec.upto orderWeighsSpec)

/-- 'vyakaranatop.TopRules', WHERE WHAT IT READS IS OF BULK AT MOST 1048576: true; the input reads as it did. -/
def topRulesUptoRow : OpenClaim := { program := "ytaooenmkofjafaa", sum := "a482faeedf91b08515141bd95fe2ae665427262972bc86af33078232692d8421", func := "vyakarana/vyakaranatop.TopRules", spec := "topRules", unfollowed := true, recurses := true, apart := false, narrowed := true }
def TopRulesUptoSaid : Prop := topRulesUptoRow.holds Try.pinned (OpenSpec.upto topRulesSpec)

/-- 'vyakaranatop.TopOrders', WHERE WHAT IT READS IS OF BULK AT MOST 1048576: true; the input reads as it did. -/
def topOrdersUptoRow : OpenClaim := { program := "ytaooenmkofjafaa", sum := "a482faeedf91b08515141bd95fe2ae665427262972bc86af33078232692d8421", func := "vyakarana/vyakaranatop.TopOrders", spec := "topOrders", unfollowed := true, recurses := true, apart := false, narrowed := true }
def TopOrdersUptoSaid : Prop := topOrdersUptoRow.holds Try.pinned (OpenSpec.upto topOrdersSpec)

/-- 'vyakaranalaw03.FeedReaches', WHERE WHAT IT READS IS OF BULK AT MOST 1048576: true; the input reads as it did. -/
def feedReachesUptoRow : OpenClaim := { program := "ytaooenmkofjafaa", sum := "a482faeedf91b08515141bd95fe2ae665427262972bc86af33078232692d8421", func := "vyakarana/vyakaranalaw03.FeedReaches", spec := "feedReaches", unfollowed := true, recurses := true, apart := false, narrowed := true }
def FeedReachesUptoSaid : Prop := feedReachesUptoRow.holds Try.pinned (OpenSpec.upto feedReachesSpec)

/-- 'vyakaranalaw03.FeedNexts', WHERE WHAT IT READS IS OF BULK AT MOST 1048576: true; the input reads as it did. -/
def feedNextsUptoRow : OpenClaim := { program := "ytaooenmkofjafaa", sum := "a482faeedf91b08515141bd95fe2ae665427262972bc86af33078232692d8421", func := "vyakarana/vyakaranalaw03.FeedNexts", spec := "feedNexts", unfollowed := true, recurses := true, apart := false, narrowed := true }
def FeedNextsUptoSaid : Prop := feedNextsUptoRow.holds Try.pinned (OpenSpec.upto feedNextsSpec)

/-- 'vyakaranalaw03.FeedSteps', WHERE WHAT IT READS IS OF BULK AT MOST 1048576: true; the input reads as it did. -/
def feedStepsUptoRow : OpenClaim := { program := "ytaooenmkofjafaa", sum := "a482faeedf91b08515141bd95fe2ae665427262972bc86af33078232692d8421", func := "vyakarana/vyakaranalaw03.FeedSteps", spec := "feedSteps", unfollowed := true, recurses := true, apart := false, narrowed := true }
def FeedStepsUptoSaid : Prop := feedStepsUptoRow.holds Try.pinned (OpenSpec.upto feedStepsSpec)

/-- 'vyakaranatop.TopFeeds', WHERE WHAT IT READS IS OF BULK AT MOST 1048576: true; the input reads as it did. -/
def topFeedsUptoRow : OpenClaim := { program := "ytaooenmkofjafaa", sum := "a482faeedf91b08515141bd95fe2ae665427262972bc86af33078232692d8421", func := "vyakarana/vyakaranatop.TopFeeds", spec := "topFeeds", unfollowed := true, recurses := true, apart := false, narrowed := true }
def TopFeedsUptoSaid : Prop := topFeedsUptoRow.holds Try.pinned (OpenSpec.upto topFeedsSpec)

/-- 'vyakaranalaw03.FeedWeights', WHERE WHAT IT READS IS OF BULK AT MOST 1048576: true; the input reads as it did. -/
def feedWeightsUptoRow : OpenClaim := { program := "ytaooenmkofjafaa", sum := "a482faeedf91b08515141bd95fe2ae665427262972bc86af33078232692d8421", func := "vyakarana/vyakaranalaw03.FeedWeights", spec := "feedWeights", unfollowed := true, recurses := true, apart := false, narrowed := true }
def FeedWeightsUptoSaid : Prop := feedWeightsUptoRow.holds Try.pinned (OpenSpec.upto feedWeightsSpec)

/-- 'vyakaranalaw03.FeedPaths', WHERE WHAT IT READS IS OF BULK AT MOST 1048576: true; the input reads as it did. -/
def feedPathsUptoRow : OpenClaim := { program := "ytaooenmkofjafaa", sum := "a482faeedf91b08515141bd95fe2ae665427262972bc86af33078232692d8421", func := "vyakarana/vyakaranalaw03.FeedPaths", spec := "feedPaths", unfollowed := true, recurses := true, apart := false, narrowed := true }
def FeedPathsUptoSaid : Prop := feedPathsUptoRow.holds Try.pinned (OpenSpec.upto feedPathsSpec)

/-- 'vyakaranalaw03.FeedFinds', WHERE WHAT IT READS IS OF BULK AT MOST 1048576: true; the input reads as it did. -/
def feedFindsUptoRow : OpenClaim := { program := "ytaooenmkofjafaa", sum := "a482faeedf91b08515141bd95fe2ae665427262972bc86af33078232692d8421", func := "vyakarana/vyakaranalaw03.FeedFinds", spec := "feedFinds", unfollowed := true, recurses := true, apart := false, narrowed := true }
def FeedFindsUptoSaid : Prop := feedFindsUptoRow.holds Try.pinned (OpenSpec.upto feedFindsSpec)

/-- 'vyakaranalaw03.FeedWithout', WHERE WHAT IT READS IS OF BULK AT MOST 1048576: true; the input reads as it did. -/
def feedWithoutUptoRow : OpenClaim := { program := "ytaooenmkofjafaa", sum := "a482faeedf91b08515141bd95fe2ae665427262972bc86af33078232692d8421", func := "vyakarana/vyakaranalaw03.FeedWithout", spec := "feedWithout", unfollowed := true, recurses := true, apart := false, narrowed := true }
def FeedWithoutUptoSaid : Prop := feedWithoutUptoRow.holds Try.pinned (OpenSpec.upto feedWithoutSpec)

/-- 'vyakaranalaw03.FeedJoins', WHERE WHAT IT READS IS OF BULK AT MOST 1048576: true; the input reads as it did. -/
def feedJoinsUptoRow : OpenClaim := { program := "ytaooenmkofjafaa", sum := "a482faeedf91b08515141bd95fe2ae665427262972bc86af33078232692d8421", func := "vyakarana/vyakaranalaw03.FeedJoins", spec := "feedJoins", unfollowed := true, recurses := true, apart := false, narrowed := true }
def FeedJoinsUptoSaid : Prop := feedJoinsUptoRow.holds Try.pinned (OpenSpec.upto feedJoinsSpec)

/-- 'vyakaranalaw03.FeedUnused', WHERE WHAT IT READS IS OF BULK AT MOST 1048576: true; the input reads as it did. -/
def feedUnusedUptoRow : OpenClaim := { program := "ytaooenmkofjafaa", sum := "a482faeedf91b08515141bd95fe2ae665427262972bc86af33078232692d8421", func := "vyakarana/vyakaranalaw03.FeedUnused", spec := "feedUnused", unfollowed := true, recurses := true, apart := false, narrowed := true }
def FeedUnusedUptoSaid : Prop := feedUnusedUptoRow.holds Try.pinned (OpenSpec.upto feedUnusedSpec)

/-- 'vyakaranalaw03.FeedHolds', WHERE WHAT IT READS IS OF BULK AT MOST 1048576: true; the input reads as it did. -/
def feedHoldsUptoRow : OpenClaim := { program := "ytaooenmkofjafaa", sum := "a482faeedf91b08515141bd95fe2ae665427262972bc86af33078232692d8421", func := "vyakarana/vyakaranalaw03.FeedHolds", spec := "feedHolds", unfollowed := true, recurses := true, apart := false, narrowed := true }
def FeedHoldsUptoSaid : Prop := feedHoldsUptoRow.holds Try.pinned (OpenSpec.upto feedHoldsSpec)

/-- 'vyakaranalaw04.OrderPaths', WHERE WHAT IT READS IS OF BULK AT MOST 1048576: true; the input reads as it did. -/
def orderPathsUptoRow : OpenClaim := { program := "ytaooenmkofjafaa", sum := "a482faeedf91b08515141bd95fe2ae665427262972bc86af33078232692d8421", func := "vyakarana/vyakaranalaw04.OrderPaths", spec := "orderPaths", unfollowed := true, recurses := true, apart := false, narrowed := true }
def OrderPathsUptoSaid : Prop := orderPathsUptoRow.holds Try.pinned (OpenSpec.upto orderPathsSpec)

end Rows
end Go.Proofs.Ytaooenmkofjafaa
