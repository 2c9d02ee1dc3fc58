/-
  No cell of these rows narrows 'for every input' (looked for: loops, veiled, ifaces, maps, wideKeys, modest, calm, conditions, laid).
  DERIVED. THE GIVEN ROWS OF THIS SEAT. 4 by the template 'for every input the law returns true; each argument reads behind the call as it read before'; 0 by the template 'total and deterministic' (their statements: YtkhddecnllcaiaaTotals.lean).
  GIVEN WITH THE SEED: the statements are not yours to turn. If you find one false, say at which input.
  Laid BY PROGRAM, IN A SANDBOX (cutbox-rows.mjs): the forced cells as the released guide's own fill.sh prints them over the translation 8e81a04e053e9f06… (all of the seat's roots in one cut). By AI agents, Wed Nov 11 2026. No macro, syntax, notation, axiom, sorry.
-/
import Derived.Test.YtkhddecnllcaiaaChecked
import GoSem.Claim
import GoSem.ClaimJoined
import GoSem.ClaimMapViews
import Derived.JoinedTies
import Derived.KernelRfl
namespace Go.Proofs.Ytkhddecnllcaiaa
/- THE CELL 'sum', in the pinned program and in every row, IS THE sha256 OF THE DUMP (.gsa) THAT YtkhddecnllcaiaaProg.lean LOADS. Nothing in Lean hashes anything: it is a label: what it is worth is what the hold of that sum in a sandbox is worth. -/
noncomputable def Try.pinned : Pinned := { name := "ytkhddecnllcaiaa", sum := "8e81a04e053e9f06480c1fdc5c0ada286969fee3915b0668e580c86f0954d5f4", checked := Try.checked }
namespace Rows
def none {H : Type} : Left H := { results := [], args := [] }

/-- 'vyakaranatop.TopRules': WHATEVER THE INPUT: true; the input reads as it did. -/
def topRulesSpec : ChangeSpec := { name := "topRules", fn := fun _ => fun
  | [d1, d2] => { results := [.lit (.bool true)], args := [d1, d2] }
  | _ => none }
def topRulesRow : OpenClaim := { program := "ytkhddecnllcaiaa", sum := "8e81a04e053e9f06480c1fdc5c0ada286969fee3915b0668e580c86f0954d5f4", func := "vyakarana/vyakaranatop.TopRules", spec := "topRules", unfollowed := true, recurses := true, apart := false }
def TopRulesSaid : Prop := topRulesRow.holds Try.pinned (OpenSpec.ofChange topRulesSpec)

/-- ITS FALSE NEIGHBOUR: 'it returns false'. Refute it at one input. -/
def topRulesWrong : ChangeSpec := { name := "topRules", fn := fun _ => fun
  | [d1, d2] => { results := [.lit (.bool false)], args := [d1, d2] }
  | _ => none }
def TopRulesWrongFalsely : Prop := topRulesRow.holds Try.pinned (OpenSpec.ofChange topRulesWrong)

/-- 'vyakaranatop.TopFeeds': WHATEVER THE INPUT: true; the input reads as it did. -/
def topFeedsSpec : ChangeSpec := { name := "topFeeds", fn := fun _ => fun
  | [d1, d2, d3] => { results := [.lit (.bool true)], args := [d1, d2, d3] }
  | _ => none }
def topFeedsRow : OpenClaim := { program := "ytkhddecnllcaiaa", sum := "8e81a04e053e9f06480c1fdc5c0ada286969fee3915b0668e580c86f0954d5f4", func := "vyakarana/vyakaranatop.TopFeeds", spec := "topFeeds", unfollowed := true, recurses := true, apart := false }
def TopFeedsSaid : Prop := topFeedsRow.holds Try.pinned (OpenSpec.ofChange topFeedsSpec)

/-- ITS FALSE NEIGHBOUR: 'it returns false'. Refute it at one input. -/
def topFeedsWrong : ChangeSpec := { name := "topFeeds", fn := fun _ => fun
  | [d1, d2, d3] => { results := [.lit (.bool false)], args := [d1, d2, d3] }
  | _ => none }
def TopFeedsWrongFalsely : Prop := topFeedsRow.holds Try.pinned (OpenSpec.ofChange topFeedsWrong)

/-- 'vyakaranalaw03.FeedWithout': WHATEVER THE INPUT: true; the input reads as it did. -/
def feedWithoutSpec : ChangeSpec := { name := "feedWithout", fn := fun _ => fun
  | [d1, d2, d3] => { results := [.lit (.bool true)], args := [d1, d2, d3] }
  | _ => none }
def feedWithoutRow : OpenClaim := { program := "ytkhddecnllcaiaa", sum := "8e81a04e053e9f06480c1fdc5c0ada286969fee3915b0668e580c86f0954d5f4", func := "vyakarana/vyakaranalaw03.FeedWithout", spec := "feedWithout", unfollowed := true, recurses := true, apart := false }
def FeedWithoutSaid : Prop := feedWithoutRow.holds Try.pinned (OpenSpec.ofChange feedWithoutSpec)

/-- ITS FALSE NEIGHBOUR: 'it returns false'. Refute it at one input. -/
def feedWithoutWrong : ChangeSpec := { name := "feedWithout", fn := fun _ => fun
  | [d1, d2, d3] => { results := [.lit (.bool false)], args := [d1, d2, d3] }
  | _ => none }
def FeedWithoutWrongFalsely : Prop := feedWithoutRow.holds Try.pinned (OpenSpec.ofChange feedWithoutWrong)

/-- 'vyakaranalaw03.FeedJoins': WHATEVER THE INPUT: true; the input reads as it did. -/
def feedJoinsSpec : ChangeSpec := { name := "feedJoins", fn := fun _ => fun
  | [d1, d2, d3] => { results := [.lit (.bool true)], args := [d1, d2, d3] }
  | _ => none }
def feedJoinsRow : OpenClaim := { program := "ytkhddecnllcaiaa", sum := "8e81a04e053e9f06480c1fdc5c0ada286969fee3915b0668e580c86f0954d5f4", func := "vyakarana/vyakaranalaw03.FeedJoins", spec := "feedJoins", unfollowed := true, recurses := true, apart := false }
def FeedJoinsSaid : Prop := feedJoinsRow.holds Try.pinned (OpenSpec.ofChange feedJoinsSpec)

/-- ITS FALSE NEIGHBOUR: 'it returns false'. Refute it at one input. -/
def feedJoinsWrong : ChangeSpec := { name := "feedJoins", fn := fun _ => fun
  | [d1, d2, d3] => { results := [.lit (.bool false)], args := [d1, d2, d3] }
  | _ => none }
def FeedJoinsWrongFalsely : Prop := feedJoinsRow.holds Try.pinned (OpenSpec.ofChange feedJoinsWrong)

/- THE SECOND FORM. 'bulk': how many values and letters a reading holds, each counted each time it is reached (what is shared counts as often as it is met; a slice's spare places count too). A statement '..UptoSaid' is the law's where the arguments, and the package variables that the reading takes, are together of bulk at most 1048576: NARROWER than '..Said'. Prove '..Said' where nothing that the law and all that it calls make is longer than what came in: it says more and counts as full. Else prove '..UptoSaid'. A law counts once. -/
mutual
def uptoBulk {H : Type} : DataW H → Nat
  | .lit (.string bytes) => bytes.length + 1
  | .lit _ => 1
  | .nil => 1
  | .ptr d => uptoBulk d + 1
  | .slice elems spare => uptoBulkAll elems + uptoBulkAll spare + 1
  | .agg parts => uptoBulkAll parts + 1
  | .iface _ d => uptoBulk d + 1
  | .map entries => uptoBulkEntries entries + 1
  | .held _ => 1
def uptoBulkAll {H : Type} : List (DataW H) → Nat
  | [] => 0
  | d :: r => uptoBulk d + uptoBulkAll r
def uptoBulkEntries {H : Type} : List (Lit × DataW H) → Nat
  | [] => 0
  | x :: r => uptoBulkEntry x + uptoBulkEntries r
def uptoBulkEntry {H : Type} : Lit × DataW H → Nat
  | (.string bytes, d) => bytes.length + uptoBulk d + 1
  | (_, d) => uptoBulk d + 1
 end
def uptoSmall : (H : Type) → List (DataW H) → Bool := fun _ ds => decide (uptoBulkAll ds ≤ 1048576)
def OpenSpec.upto (s : _root_.Go.ChangeSpec) : _root_.Go.OpenSpec := { _root_.Go.OpenSpec.ofChange s with cond := some uptoSmall }

/-- 'vyakaranatop.TopRules', WHERE WHAT IT READS IS OF BULK AT MOST 1048576: true; the input reads as it did. -/
def topRulesUptoRow : OpenClaim := { program := "ytkhddecnllcaiaa", sum := "8e81a04e053e9f06480c1fdc5c0ada286969fee3915b0668e580c86f0954d5f4", func := "vyakarana/vyakaranatop.TopRules", spec := "topRules", unfollowed := true, recurses := true, apart := false, narrowed := true }
def TopRulesUptoSaid : Prop := topRulesUptoRow.holds Try.pinned (OpenSpec.upto topRulesSpec)

/-- 'vyakaranatop.TopFeeds', WHERE WHAT IT READS IS OF BULK AT MOST 1048576: true; the input reads as it did. -/
def topFeedsUptoRow : OpenClaim := { program := "ytkhddecnllcaiaa", sum := "8e81a04e053e9f06480c1fdc5c0ada286969fee3915b0668e580c86f0954d5f4", func := "vyakarana/vyakaranatop.TopFeeds", spec := "topFeeds", unfollowed := true, recurses := true, apart := false, narrowed := true }
def TopFeedsUptoSaid : Prop := topFeedsUptoRow.holds Try.pinned (OpenSpec.upto topFeedsSpec)

/-- 'vyakaranalaw03.FeedWithout', WHERE WHAT IT READS IS OF BULK AT MOST 1048576: true; the input reads as it did. -/
def feedWithoutUptoRow : OpenClaim := { program := "ytkhddecnllcaiaa", sum := "8e81a04e053e9f06480c1fdc5c0ada286969fee3915b0668e580c86f0954d5f4", func := "vyakarana/vyakaranalaw03.FeedWithout", spec := "feedWithout", unfollowed := true, recurses := true, apart := false, narrowed := true }
def FeedWithoutUptoSaid : Prop := feedWithoutUptoRow.holds Try.pinned (OpenSpec.upto feedWithoutSpec)

/-- 'vyakaranalaw03.FeedJoins', WHERE WHAT IT READS IS OF BULK AT MOST 1048576: true; the input reads as it did. -/
def feedJoinsUptoRow : OpenClaim := { program := "ytkhddecnllcaiaa", sum := "8e81a04e053e9f06480c1fdc5c0ada286969fee3915b0668e580c86f0954d5f4", func := "vyakarana/vyakaranalaw03.FeedJoins", spec := "feedJoins", unfollowed := true, recurses := true, apart := false, narrowed := true }
def FeedJoinsUptoSaid : Prop := feedJoinsUptoRow.holds Try.pinned (OpenSpec.upto feedJoinsSpec)

end Rows
end Go.Proofs.Ytkhddecnllcaiaa
