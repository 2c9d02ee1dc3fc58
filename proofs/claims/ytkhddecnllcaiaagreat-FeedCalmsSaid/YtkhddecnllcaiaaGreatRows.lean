/-
  No cell of these rows narrows 'for every input' (looked for: loops, veiled, ifaces, maps, wideKeys, modest, calm, conditions, laid).
  DERIVED. THE GIVEN ROWS OF THIS SEAT. 4 by the template 'for every input the law returns true; each argument reads behind the call as it read before'; 0 by the template 'total and deterministic' (their statements: YtkhddecnllcaiaaGreatTotals.lean).
  GIVEN WITH THE SEED: the statements are not yours to turn. If you find one false, say at which input.
  Laid BY PROGRAM, IN A SANDBOX (cutbox-rows.mjs): the forced cells as the released guide's own fill.sh prints them over the translation e97e23d4e6fcbc96… (all of the seat's roots in one cut). By AI agents, Wed Nov 11 2026. No macro, syntax, notation, axiom, sorry.
-/
import Derived.Test.YtkhddecnllcaiaaGreatChecked
import GoSem.Claim
import GoSem.ClaimJoined
import GoSem.ClaimMapViews
import Derived.JoinedTies
import Derived.KernelRfl
namespace Go.Proofs.YtkhddecnllcaiaaGreat
/- THE CELL 'sum', in the pinned program and in every row, IS THE sha256 OF THE DUMP (.gsa) THAT YtkhddecnllcaiaaGreatProg.lean LOADS. Nothing in Lean hashes anything: it is a label: what it is worth is what the hold of that sum in a sandbox is worth. -/
noncomputable def Tryz.pinned : Pinned := { name := "ytkhddecnllcaiaagreat", sum := "e97e23d4e6fcbc96504dd5c48ac389fd1c5cfaafea9add3d7748db502059d05a", checked := Tryz.checked }
namespace Rows
def none {H : Type} : Left H := { results := [], args := [] }

/-- 'vyakaranalaw03.FeedEnds': WHATEVER THE INPUT: true; the input reads as it did. -/
def feedEndsSpec : ChangeSpec := { name := "feedEnds", fn := fun _ => fun
  | [d1, d2] => { results := [.lit (.bool true)], args := [d1, d2] }
  | _ => none }
def feedEndsRow : OpenClaim := { program := "ytkhddecnllcaiaagreat", sum := "e97e23d4e6fcbc96504dd5c48ac389fd1c5cfaafea9add3d7748db502059d05a", func := "vyakarana/vyakaranalaw03.FeedEnds", spec := "feedEnds", unfollowed := true, recurses := true, apart := false }
def FeedEndsSaid : Prop := feedEndsRow.holds Tryz.pinned (OpenSpec.ofChange feedEndsSpec)

/-- ITS FALSE NEIGHBOUR: 'it returns false'. Refute it at one input. -/
def feedEndsWrong : ChangeSpec := { name := "feedEnds", fn := fun _ => fun
  | [d1, d2] => { results := [.lit (.bool false)], args := [d1, d2] }
  | _ => none }
def FeedEndsWrongFalsely : Prop := feedEndsRow.holds Tryz.pinned (OpenSpec.ofChange feedEndsWrong)

/-- 'vyakaranalaw04.OrderUses': WHATEVER THE INPUT: true; the input reads as it did. -/
def orderUsesSpec : ChangeSpec := { name := "orderUses", fn := fun _ => fun
  | [d] => { results := [.lit (.bool true)], args := [d] }
  | _ => none }
def orderUsesRow : OpenClaim := { program := "ytkhddecnllcaiaagreat", sum := "e97e23d4e6fcbc96504dd5c48ac389fd1c5cfaafea9add3d7748db502059d05a", func := "vyakarana/vyakaranalaw04.OrderUses", spec := "orderUses", unfollowed := true, recurses := true, apart := false }
def OrderUsesSaid : Prop := orderUsesRow.holds Tryz.pinned (OpenSpec.ofChange orderUsesSpec)

/-- ITS FALSE NEIGHBOUR: 'it returns false'. Refute it at one input. -/
def orderUsesWrong : ChangeSpec := { name := "orderUses", fn := fun _ => fun
  | [d] => { results := [.lit (.bool false)], args := [d] }
  | _ => none }
def OrderUsesWrongFalsely : Prop := orderUsesRow.holds Tryz.pinned (OpenSpec.ofChange orderUsesWrong)

/-- 'vyakaranalaw04.OrderForms': WHATEVER THE INPUT: true; the input reads as it did. -/
def orderFormsSpec : ChangeSpec := { name := "orderForms", fn := fun _ => fun
  | [d] => { results := [.lit (.bool true)], args := [d] }
  | _ => none }
def orderFormsRow : OpenClaim := { program := "ytkhddecnllcaiaagreat", sum := "e97e23d4e6fcbc96504dd5c48ac389fd1c5cfaafea9add3d7748db502059d05a", func := "vyakarana/vyakaranalaw04.OrderForms", spec := "orderForms", unfollowed := true, recurses := true, apart := false }
def OrderFormsSaid : Prop := orderFormsRow.holds Tryz.pinned (OpenSpec.ofChange orderFormsSpec)

/-- ITS FALSE NEIGHBOUR: 'it returns false'. Refute it at one input. -/
def orderFormsWrong : ChangeSpec := { name := "orderForms", fn := fun _ => fun
  | [d] => { results := [.lit (.bool false)], args := [d] }
  | _ => none }
def OrderFormsWrongFalsely : Prop := orderFormsRow.holds Tryz.pinned (OpenSpec.ofChange orderFormsWrong)

/-- 'vyakaranalaw03.FeedCalms': WHATEVER THE INPUT: true; the input reads as it did. -/
def feedCalmsSpec : ChangeSpec := { name := "feedCalms", fn := fun _ => fun
  | [d1, d2] => { results := [.lit (.bool true)], args := [d1, d2] }
  | _ => none }
def feedCalmsRow : OpenClaim := { program := "ytkhddecnllcaiaagreat", sum := "e97e23d4e6fcbc96504dd5c48ac389fd1c5cfaafea9add3d7748db502059d05a", func := "vyakarana/vyakaranalaw03.FeedCalms", spec := "feedCalms", unfollowed := true, recurses := true, apart := false }
def FeedCalmsSaid : Prop := feedCalmsRow.holds Tryz.pinned (OpenSpec.ofChange feedCalmsSpec)

/-- ITS FALSE NEIGHBOUR: 'it returns false'. Refute it at one input. -/
def feedCalmsWrong : ChangeSpec := { name := "feedCalms", fn := fun _ => fun
  | [d1, d2] => { results := [.lit (.bool false)], args := [d1, d2] }
  | _ => none }
def FeedCalmsWrongFalsely : Prop := feedCalmsRow.holds Tryz.pinned (OpenSpec.ofChange feedCalmsWrong)

/- THE SECOND FORM. 'bulk': how many values and letters a reading holds, each counted each time it is reached (what is shared counts as often as it is met; a slice's spare places count too). A statement '..UptoSaid' is the law's where the arguments, and the package variables that the reading takes, are together of bulk at most 1048576: NARROWER than '..Said'. Prove '..Said' where nothing that the law and all that it calls make is longer than what came in: it says more and counts as full. Else prove '..UptoSaid'. A law counts once. -/
mutual
def uptoBulk {H : Type} : DataW H → Nat
  | .lit (.string bytes) => bytes.length + 1
  | .lit _ => 1
  | .nil => 1
  | .ptr d => uptoBulk d + 1
  | .slice elems spare => uptoBulkAll elems + uptoBulkAll spare + 1
  | .agg parts => uptoBulkAll parts + 1
  | .iface _ d => uptoBulk d + 1
  | .map entries => uptoBulkEntries entries + 1
  | .held _ => 1
def uptoBulkAll {H : Type} : List (DataW H) → Nat
  | [] => 0
  | d :: r => uptoBulk d + uptoBulkAll r
def uptoBulkEntries {H : Type} : List (Lit × DataW H) → Nat
  | [] => 0
  | x :: r => uptoBulkEntry x + uptoBulkEntries r
def uptoBulkEntry {H : Type} : Lit × DataW H → Nat
  | (.string bytes, d) => bytes.length + uptoBulk d + 1
  | (_, d) => uptoBulk d + 1
 end
def uptoSmall : (H : Type) → List (DataW H) → Bool := fun _ ds => decide (uptoBulkAll ds ≤ 1048576)
def OpenSpec.upto (s : _root_.Go.ChangeSpec) : _root_.Go.OpenSpec := { _root_.Go.OpenSpec.ofChange s with cond := some uptoSmall }

/-- 'vyakaranalaw03.FeedEnds', WHERE WHAT IT READS IS OF BULK AT MOST 1048576: true; the input reads as it did. -/
def feedEndsUptoRow : OpenClaim := { program := "ytkhddecnllcaiaagreat", sum := "e97e23d4e6fcbc96504dd5c48ac389fd1c5cfaafea9add3d7748db502059d05a", func := "vyakarana/vyakaranalaw03.FeedEnds", spec := "feedEnds", unfollowed := true, recurses := true, apart := false, narrowed := true }
def FeedEndsUptoSaid : Prop := feedEndsUptoRow.holds Tryz.pinned (OpenSpec.upto feedEndsSpec)

/-- 'vyakaranalaw04.OrderUses', WHERE WHAT IT READS IS OF BULK AT MOST 1048576: true; the input reads as it did. -/
def orderUsesUptoRow : OpenClaim := { program := "ytkhddecnllcaiaagreat", sum := "e97e23d4e6fcbc96504dd5c48ac389fd1c5cfaafea9add3d7748db502059d05a", func := "vyakarana/vyakaranalaw04.OrderUses", spec := "orderUses", unfollowed := true, recurses := true, apart := false, narrowed := true }
def OrderUsesUptoSaid : Prop := orderUsesUptoRow.holds Tryz.pinned (OpenSpec.upto orderUsesSpec)

/-- 'vyakaranalaw04.OrderForms', WHERE WHAT IT READS IS OF BULK AT MOST 1048576: true; the input reads as it did. -/
def orderFormsUptoRow : OpenClaim := { program := "ytkhddecnllcaiaagreat", sum := "e97e23d4e6fcbc96504dd5c48ac389fd1c5cfaafea9add3d7748db502059d05a", func := "vyakarana/vyakaranalaw04.OrderForms", spec := "orderForms", unfollowed := true, recurses := true, apart := false, narrowed := true }
def OrderFormsUptoSaid : Prop := orderFormsUptoRow.holds Tryz.pinned (OpenSpec.upto orderFormsSpec)

/-- 'vyakaranalaw03.FeedCalms', WHERE WHAT IT READS IS OF BULK AT MOST 1048576: true; the input reads as it did. -/
def feedCalmsUptoRow : OpenClaim := { program := "ytkhddecnllcaiaagreat", sum := "e97e23d4e6fcbc96504dd5c48ac389fd1c5cfaafea9add3d7748db502059d05a", func := "vyakarana/vyakaranalaw03.FeedCalms", spec := "feedCalms", unfollowed := true, recurses := true, apart := false, narrowed := true }
def FeedCalmsUptoSaid : Prop := feedCalmsUptoRow.holds Tryz.pinned (OpenSpec.upto feedCalmsSpec)

end Rows
end Go.Proofs.YtkhddecnllcaiaaGreat
