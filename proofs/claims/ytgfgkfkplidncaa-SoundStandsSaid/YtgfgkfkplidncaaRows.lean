/-
  No cell of these rows narrows 'for every input' (looked for: loops, veiled, ifaces, maps, wideKeys, modest, calm, conditions, laid).
  DERIVED. THE GIVEN ROWS OF THIS SEAT. 6 by the template 'for every input the law returns true; each argument reads behind the call as it read before'; 0 by the template 'total and deterministic' (their statements: YtgfgkfkplidncaaTotals.lean).
  GIVEN WITH THE SEED: the statements are not yours to turn. If you find one false, say at which input.
  Laid BY PROGRAM, IN A SANDBOX (cutbox-rows.mjs): the forced cells as the released guide's own fill.sh prints them over the translation 2d76027e0cc27a5b… (all of the seat's roots in one cut). By AI agents, Wed Nov 11 2026. No macro, syntax, notation, axiom, sorry.
-/
import Derived.Test.YtgfgkfkplidncaaChecked
import GoSem.Claim
import GoSem.ClaimJoined
import GoSem.ClaimMapViews
import Derived.JoinedTies
import Derived.KernelRfl
namespace Go.Proofs.Ytgfgkfkplidncaa
/- THE CELL 'sum', in the pinned program and in every row, IS THE sha256 OF THE DUMP (.gsa) THAT YtgfgkfkplidncaaProg.lean LOADS. Nothing in Lean hashes anything: it is a label: what it is worth is what the hold of that sum in a sandbox is worth. -/
noncomputable def Try.pinned : Pinned := { name := "ytgfgkfkplidncaa", sum := "2d76027e0cc27a5bcdec239af31888871b449a2af5aacc0d5a4f4b0132f094b2", checked := Try.checked }
namespace Rows
def none {H : Type} : Left H := { results := [], args := [] }

/-- 'vyakaranalaw01.SoundNames': WHATEVER THE INPUT: true; the input reads as it did. -/
def soundNamesSpec : ChangeSpec := { name := "soundNames", fn := fun _ => fun
  | [d] => { results := [.lit (.bool true)], args := [d] }
  | _ => none }
def soundNamesRow : OpenClaim := { program := "ytgfgkfkplidncaa", sum := "2d76027e0cc27a5bcdec239af31888871b449a2af5aacc0d5a4f4b0132f094b2", func := "vyakarana/vyakaranalaw01.SoundNames", spec := "soundNames", unfollowed := true, recurses := true, apart := false }
def SoundNamesSaid : Prop := soundNamesRow.holds Try.pinned (OpenSpec.ofChange soundNamesSpec)

/-- ITS FALSE NEIGHBOUR: 'it returns false'. Refute it at one input. -/
def soundNamesWrong : ChangeSpec := { name := "soundNames", fn := fun _ => fun
  | [d] => { results := [.lit (.bool false)], args := [d] }
  | _ => none }
def SoundNamesWrongFalsely : Prop := soundNamesRow.holds Try.pinned (OpenSpec.ofChange soundNamesWrong)

/-- 'vyakaranalaw01.SoundTables': WHATEVER THE INPUT: true; the input reads as it did. -/
def soundTablesSpec : ChangeSpec := { name := "soundTables", fn := fun _ => fun
  | [d1, d2] => { results := [.lit (.bool true)], args := [d1, d2] }
  | _ => none }
def soundTablesRow : OpenClaim := { program := "ytgfgkfkplidncaa", sum := "2d76027e0cc27a5bcdec239af31888871b449a2af5aacc0d5a4f4b0132f094b2", func := "vyakarana/vyakaranalaw01.SoundTables", spec := "soundTables", unfollowed := true, recurses := true, apart := false }
def SoundTablesSaid : Prop := soundTablesRow.holds Try.pinned (OpenSpec.ofChange soundTablesSpec)

/-- ITS FALSE NEIGHBOUR: 'it returns false'. Refute it at one input. -/
def soundTablesWrong : ChangeSpec := { name := "soundTables", fn := fun _ => fun
  | [d1, d2] => { results := [.lit (.bool false)], args := [d1, d2] }
  | _ => none }
def SoundTablesWrongFalsely : Prop := soundTablesRow.holds Try.pinned (OpenSpec.ofChange soundTablesWrong)

/-- 'vyakaranalaw01.SoundFewest': WHATEVER THE INPUT: true; the input reads as it did. -/
def soundFewestSpec : ChangeSpec := { name := "soundFewest", fn := fun _ => fun
  | [d1, d2] => { results := [.lit (.bool true)], args := [d1, d2] }
  | _ => none }
def soundFewestRow : OpenClaim := { program := "ytgfgkfkplidncaa", sum := "2d76027e0cc27a5bcdec239af31888871b449a2af5aacc0d5a4f4b0132f094b2", func := "vyakarana/vyakaranalaw01.SoundFewest", spec := "soundFewest", unfollowed := true, recurses := true, apart := false }
def SoundFewestSaid : Prop := soundFewestRow.holds Try.pinned (OpenSpec.ofChange soundFewestSpec)

/-- ITS FALSE NEIGHBOUR: 'it returns false'. Refute it at one input. -/
def soundFewestWrong : ChangeSpec := { name := "soundFewest", fn := fun _ => fun
  | [d1, d2] => { results := [.lit (.bool false)], args := [d1, d2] }
  | _ => none }
def SoundFewestWrongFalsely : Prop := soundFewestRow.holds Try.pinned (OpenSpec.ofChange soundFewestWrong)

/-- 'vyakaranalaw01.SoundFits': WHATEVER THE INPUT: true; the input reads as it did. -/
def soundFitsSpec : ChangeSpec := { name := "soundFits", fn := fun _ => fun
  | [d1, d2, d3] => { results := [.lit (.bool true)], args := [d1, d2, d3] }
  | _ => none }
def soundFitsRow : OpenClaim := { program := "ytgfgkfkplidncaa", sum := "2d76027e0cc27a5bcdec239af31888871b449a2af5aacc0d5a4f4b0132f094b2", func := "vyakarana/vyakaranalaw01.SoundFits", spec := "soundFits", unfollowed := true, recurses := true, apart := false }
def SoundFitsSaid : Prop := soundFitsRow.holds Try.pinned (OpenSpec.ofChange soundFitsSpec)

/-- ITS FALSE NEIGHBOUR: 'it returns false'. Refute it at one input. -/
def soundFitsWrong : ChangeSpec := { name := "soundFits", fn := fun _ => fun
  | [d1, d2, d3] => { results := [.lit (.bool false)], args := [d1, d2, d3] }
  | _ => none }
def SoundFitsWrongFalsely : Prop := soundFitsRow.holds Try.pinned (OpenSpec.ofChange soundFitsWrong)

/-- 'vyakaranalaw01.SoundOrders': WHATEVER THE INPUT: true; the input reads as it did. -/
def soundOrdersSpec : ChangeSpec := { name := "soundOrders", fn := fun _ => fun
  | [d1, d2] => { results := [.lit (.bool true)], args := [d1, d2] }
  | _ => none }
def soundOrdersRow : OpenClaim := { program := "ytgfgkfkplidncaa", sum := "2d76027e0cc27a5bcdec239af31888871b449a2af5aacc0d5a4f4b0132f094b2", func := "vyakarana/vyakaranalaw01.SoundOrders", spec := "soundOrders", unfollowed := true, recurses := true, apart := false }
def SoundOrdersSaid : Prop := soundOrdersRow.holds Try.pinned (OpenSpec.ofChange soundOrdersSpec)

/-- ITS FALSE NEIGHBOUR: 'it returns false'. Refute it at one input. -/
def soundOrdersWrong : ChangeSpec := { name := "soundOrders", fn := fun _ => fun
  | [d1, d2] => { results := [.lit (.bool false)], args := [d1, d2] }
  | _ => none }
def SoundOrdersWrongFalsely : Prop := soundOrdersRow.holds Try.pinned (OpenSpec.ofChange soundOrdersWrong)

/-- 'vyakaranalaw01.SoundStands': WHATEVER THE INPUT: true; the input reads as it did. -/
def soundStandsSpec : ChangeSpec := { name := "soundStands", fn := fun _ => fun
  | [d1, d2] => { results := [.lit (.bool true)], args := [d1, d2] }
  | _ => none }
def soundStandsRow : OpenClaim := { program := "ytgfgkfkplidncaa", sum := "2d76027e0cc27a5bcdec239af31888871b449a2af5aacc0d5a4f4b0132f094b2", func := "vyakarana/vyakaranalaw01.SoundStands", spec := "soundStands", unfollowed := true, recurses := true, apart := false }
def SoundStandsSaid : Prop := soundStandsRow.holds Try.pinned (OpenSpec.ofChange soundStandsSpec)

/-- ITS FALSE NEIGHBOUR: 'it returns false'. Refute it at one input. -/
def soundStandsWrong : ChangeSpec := { name := "soundStands", fn := fun _ => fun
  | [d1, d2] => { results := [.lit (.bool false)], args := [d1, d2] }
  | _ => none }
def SoundStandsWrongFalsely : Prop := soundStandsRow.holds Try.pinned (OpenSpec.ofChange soundStandsWrong)

/- THE SECOND FORM. 'bulk': how many values and letters a reading holds, each counted each time it is reached (what is shared counts as often as it is met; a slice's spare places count too). A statement '..UptoSaid' is the law's where the arguments, and the package variables that the reading takes, are together of bulk at most 1048576: NARROWER than '..Said'. Prove '..Said' where nothing that the law and all that it calls make is longer than what came in: it says more and counts as full. Else prove '..UptoSaid'. A law counts once. -/
mutual
def uptoBulk {H : Type} : DataW H → Nat
  | .lit (.string bytes) => bytes.length + 1
  | .lit _ => 1
  | .nil => 1
  | .ptr d => uptoBulk d + 1
  | .slice elems spare => uptoBulkAll elems + uptoBulkAll spare + 1
  | .agg parts => uptoBulkAll parts + 1
  | .iface _ d => uptoBulk d + 1
  | .map entries => uptoBulkEntries entries + 1
  | .held _ => 1
def uptoBulkAll {H : Type} : List (DataW H) → Nat
  | [] => 0
  | d :: r => uptoBulk d + uptoBulkAll r
def uptoBulkEntries {H : Type} : List (Lit × DataW H) → Nat
  | [] => 0
  | x :: r => uptoBulkEntry x + uptoBulkEntries r
def uptoBulkEntry {H : Type} : Lit × DataW H → Nat
  | (.string bytes, d) => bytes.length + uptoBulk d + 1
  | (_, d) => uptoBulk d + 1
 end
def uptoSmall : (H : Type) → List (DataW H) → Bool := fun _ ds => decide (uptoBulkAll ds ≤ 1048576)
def OpenSpec.upto (s : _root_.Go.ChangeSpec) : _root_.Go.OpenSpec := { _root_.Go.OpenSpec.ofChange s with cond := some uptoSmall }

/-- 'vyakaranalaw01.SoundNames', WHERE WHAT IT READS IS OF BULK AT MOST 1048576: true; the input reads as it did. -/
def soundNamesUptoRow : OpenClaim := { program := "ytgfgkfkplidncaa", sum := "2d76027e0cc27a5bcdec239af31888871b449a2af5aacc0d5a4f4b0132f094b2", func := "vyakarana/vyakaranalaw01.SoundNames", spec := "soundNames", unfollowed := true, recurses := true, apart := false, narrowed := true }
def SoundNamesUptoSaid : Prop := soundNamesUptoRow.holds Try.pinned (OpenSpec.upto soundNamesSpec)

/-- 'vyakaranalaw01.SoundTables', WHERE WHAT IT READS IS OF BULK AT MOST 1048576: true; the input reads as it did. -/
def soundTablesUptoRow : OpenClaim := { program := "ytgfgkfkplidncaa", sum := "2d76027e0cc27a5bcdec239af31888871b449a2af5aacc0d5a4f4b0132f094b2", func := "vyakarana/vyakaranalaw01.SoundTables", spec := "soundTables", unfollowed := true, recurses := true, apart := false, narrowed := true }
def SoundTablesUptoSaid : Prop := soundTablesUptoRow.holds Try.pinned (OpenSpec.upto soundTablesSpec)

/-- 'vyakaranalaw01.SoundFewest', WHERE WHAT IT READS IS OF BULK AT MOST 1048576: true; the input reads as it did. -/
def soundFewestUptoRow : OpenClaim := { program := "ytgfgkfkplidncaa", sum := "2d76027e0cc27a5bcdec239af31888871b449a2af5aacc0d5a4f4b0132f094b2", func := "vyakarana/vyakaranalaw01.SoundFewest", spec := "soundFewest", unfollowed := true, recurses := true, apart := false, narrowed := true }
def SoundFewestUptoSaid : Prop := soundFewestUptoRow.holds Try.pinned (OpenSpec.upto soundFewestSpec)

/-- 'vyakaranalaw01.SoundFits', WHERE WHAT IT READS IS OF BULK AT MOST 1048576: true; the input reads as it did. -/
def soundFitsUptoRow : OpenClaim := { program := "ytgfgkfkplidncaa", sum := "2d76027e0cc27a5bcdec239af31888871b449a2af5aacc0d5a4f4b0132f094b2", func := "vyakarana/vyakaranalaw01.SoundFits", spec := "soundFits", unfollowed := true, recurses := true, apart := false, narrowed := true }
def SoundFitsUptoSaid : Prop := soundFitsUptoRow.holds Try.pinned (OpenSpec.upto soundFitsSpec)

/-- 'vyakaranalaw01.SoundOrders', WHERE WHAT IT READS IS OF BULK AT MOST 1048576: true; the input reads as it did. -/
def soundOrdersUptoRow : OpenClaim := { program := "ytgfgkfkplidncaa", sum := "2d76027e0cc27a5bcdec239af31888871b449a2af5aacc0d5a4f4b0132f094b2", func := "vyakarana/vyakaranalaw01.SoundOrders", spec := "soundOrders", unfollowed := true, recurses := true, apart := false, narrowed := true }
def SoundOrdersUptoSaid : Prop := soundOrdersUptoRow.holds Try.pinned (OpenSpec.upto soundOrdersSpec)

/-- 'vyakaranalaw01.SoundStands', WHERE WHAT IT READS IS OF BULK AT MOST 1048576: true; the input reads as it did. -/
def soundStandsUptoRow : OpenClaim := { program := "ytgfgkfkplidncaa", sum := "2d76027e0cc27a5bcdec239af31888871b449a2af5aacc0d5a4f4b0132f094b2", func := "vyakarana/vyakaranalaw01.SoundStands", spec := "soundStands", unfollowed := true, recurses := true, apart := false, narrowed := true }
def SoundStandsUptoSaid : Prop := soundStandsUptoRow.holds Try.pinned (OpenSpec.upto soundStandsSpec)

end Rows
end Go.Proofs.Ytgfgkfkplidncaa
