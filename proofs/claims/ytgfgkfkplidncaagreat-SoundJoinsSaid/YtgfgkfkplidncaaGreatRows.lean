/-
  No cell of these rows narrows 'for every input' (looked for: loops, veiled, ifaces, maps, wideKeys, modest, calm, conditions, laid).
  DERIVED. THE GIVEN ROWS OF THIS SEAT. 8 by the template 'for every input the law returns true; each argument reads behind the call as it read before'; 0 by the template 'total and deterministic' (their statements: YtgfgkfkplidncaaGreatTotals.lean).
  GIVEN WITH THE SEED: the statements are not yours to turn. If you find one false, say at which input.
  Laid BY PROGRAM, IN A SANDBOX (cutbox-rows.mjs): the forced cells as the released guide's own fill.sh prints them over the translation 8853d61ed9117944… (all of the seat's roots in one cut). By AI agents, Wed Nov 11 2026. No macro, syntax, notation, axiom, sorry.
-/
import Derived.Test.YtgfgkfkplidncaaGreatChecked
import GoSem.Claim
import GoSem.ClaimJoined
import GoSem.ClaimMapViews
import Derived.JoinedTies
import Derived.KernelRfl
namespace Go.Proofs.YtgfgkfkplidncaaGreat
/- THE CELL 'sum', in the pinned program and in every row, IS THE sha256 OF THE DUMP (.gsa) THAT YtgfgkfkplidncaaGreatProg.lean LOADS. Nothing in Lean hashes anything: it is a label: what it is worth is what the hold of that sum in a sandbox is worth. -/
noncomputable def Tryz.pinned : Pinned := { name := "ytgfgkfkplidncaagreat", sum := "8853d61ed91179446c98fb74da7a407421f947d5fdd0e32cb291de0b4e517e81", checked := Tryz.checked }
namespace Rows
def none {H : Type} : Left H := { results := [], args := [] }

/-- 'vyakaranalaw01.SoundNamed': WHATEVER THE INPUT: true; the input reads as it did. -/
def soundNamedSpec : ChangeSpec := { name := "soundNamed", fn := fun _ => fun
  | [d1, d2] => { results := [.lit (.bool true)], args := [d1, d2] }
  | _ => none }
def soundNamedRow : OpenClaim := { program := "ytgfgkfkplidncaagreat", sum := "8853d61ed91179446c98fb74da7a407421f947d5fdd0e32cb291de0b4e517e81", func := "vyakarana/vyakaranalaw01.SoundNamed", spec := "soundNamed", unfollowed := true, recurses := true, apart := false }
def SoundNamedSaid : Prop := soundNamedRow.holds Tryz.pinned (OpenSpec.ofChange soundNamedSpec)

/-- ITS FALSE NEIGHBOUR: 'it returns false'. Refute it at one input. -/
def soundNamedWrong : ChangeSpec := { name := "soundNamed", fn := fun _ => fun
  | [d1, d2] => { results := [.lit (.bool false)], args := [d1, d2] }
  | _ => none }
def SoundNamedWrongFalsely : Prop := soundNamedRow.holds Tryz.pinned (OpenSpec.ofChange soundNamedWrong)

/-- 'vyakaranalaw01.SoundChecks': WHATEVER THE INPUT: true; the input reads as it did. -/
def soundChecksSpec : ChangeSpec := { name := "soundChecks", fn := fun _ => fun
  | [d1, d2, d3] => { results := [.lit (.bool true)], args := [d1, d2, d3] }
  | _ => none }
def soundChecksRow : OpenClaim := { program := "ytgfgkfkplidncaagreat", sum := "8853d61ed91179446c98fb74da7a407421f947d5fdd0e32cb291de0b4e517e81", func := "vyakarana/vyakaranalaw01.SoundChecks", spec := "soundChecks", unfollowed := true, recurses := true, apart := false }
def SoundChecksSaid : Prop := soundChecksRow.holds Tryz.pinned (OpenSpec.ofChange soundChecksSpec)

/-- ITS FALSE NEIGHBOUR: 'it returns false'. Refute it at one input. -/
def soundChecksWrong : ChangeSpec := { name := "soundChecks", fn := fun _ => fun
  | [d1, d2, d3] => { results := [.lit (.bool false)], args := [d1, d2, d3] }
  | _ => none }
def SoundChecksWrongFalsely : Prop := soundChecksRow.holds Tryz.pinned (OpenSpec.ofChange soundChecksWrong)

/-- 'vyakaranalaw01.SoundMakes': WHATEVER THE INPUT: true; the input reads as it did. -/
def soundMakesSpec : ChangeSpec := { name := "soundMakes", fn := fun _ => fun
  | [d1, d2] => { results := [.lit (.bool true)], args := [d1, d2] }
  | _ => none }
def soundMakesRow : OpenClaim := { program := "ytgfgkfkplidncaagreat", sum := "8853d61ed91179446c98fb74da7a407421f947d5fdd0e32cb291de0b4e517e81", func := "vyakarana/vyakaranalaw01.SoundMakes", spec := "soundMakes", unfollowed := true, recurses := true, apart := false }
def SoundMakesSaid : Prop := soundMakesRow.holds Tryz.pinned (OpenSpec.ofChange soundMakesSpec)

/-- ITS FALSE NEIGHBOUR: 'it returns false'. Refute it at one input. -/
def soundMakesWrong : ChangeSpec := { name := "soundMakes", fn := fun _ => fun
  | [d1, d2] => { results := [.lit (.bool false)], args := [d1, d2] }
  | _ => none }
def SoundMakesWrongFalsely : Prop := soundMakesRow.holds Tryz.pinned (OpenSpec.ofChange soundMakesWrong)

/-- 'vyakaranalaw01.SoundRenames': WHATEVER THE INPUT: true; the input reads as it did. -/
def soundRenamesSpec : ChangeSpec := { name := "soundRenames", fn := fun _ => fun
  | [d1, d2] => { results := [.lit (.bool true)], args := [d1, d2] }
  | _ => none }
def soundRenamesRow : OpenClaim := { program := "ytgfgkfkplidncaagreat", sum := "8853d61ed91179446c98fb74da7a407421f947d5fdd0e32cb291de0b4e517e81", func := "vyakarana/vyakaranalaw01.SoundRenames", spec := "soundRenames", unfollowed := true, recurses := true, apart := false }
def SoundRenamesSaid : Prop := soundRenamesRow.holds Tryz.pinned (OpenSpec.ofChange soundRenamesSpec)

/-- ITS FALSE NEIGHBOUR: 'it returns false'. Refute it at one input. -/
def soundRenamesWrong : ChangeSpec := { name := "soundRenames", fn := fun _ => fun
  | [d1, d2] => { results := [.lit (.bool false)], args := [d1, d2] }
  | _ => none }
def SoundRenamesWrongFalsely : Prop := soundRenamesRow.holds Tryz.pinned (OpenSpec.ofChange soundRenamesWrong)

/-- 'vyakaranalaw01.SoundMarks': WHATEVER THE INPUT: true; the input reads as it did. -/
def soundMarksSpec : ChangeSpec := { name := "soundMarks", fn := fun _ => fun
  | [d1, d2, d3] => { results := [.lit (.bool true)], args := [d1, d2, d3] }
  | _ => none }
def soundMarksRow : OpenClaim := { program := "ytgfgkfkplidncaagreat", sum := "8853d61ed91179446c98fb74da7a407421f947d5fdd0e32cb291de0b4e517e81", func := "vyakarana/vyakaranalaw01.SoundMarks", spec := "soundMarks", unfollowed := true, recurses := true, apart := false }
def SoundMarksSaid : Prop := soundMarksRow.holds Tryz.pinned (OpenSpec.ofChange soundMarksSpec)

/-- ITS FALSE NEIGHBOUR: 'it returns false'. Refute it at one input. -/
def soundMarksWrong : ChangeSpec := { name := "soundMarks", fn := fun _ => fun
  | [d1, d2, d3] => { results := [.lit (.bool false)], args := [d1, d2, d3] }
  | _ => none }
def SoundMarksWrongFalsely : Prop := soundMarksRow.holds Tryz.pinned (OpenSpec.ofChange soundMarksWrong)

/-- 'vyakaranalaw01.SoundJoins': WHATEVER THE INPUT: true; the input reads as it did. -/
def soundJoinsSpec : ChangeSpec := { name := "soundJoins", fn := fun _ => fun
  | [d1, d2] => { results := [.lit (.bool true)], args := [d1, d2] }
  | _ => none }
def soundJoinsRow : OpenClaim := { program := "ytgfgkfkplidncaagreat", sum := "8853d61ed91179446c98fb74da7a407421f947d5fdd0e32cb291de0b4e517e81", func := "vyakarana/vyakaranalaw01.SoundJoins", spec := "soundJoins", inPlace := ["slices.overlaps[[]int]"], unfollowed := true, recurses := true, apart := false }
def SoundJoinsSaid : Prop := soundJoinsRow.holds Tryz.pinned (OpenSpec.ofChange soundJoinsSpec)

/-- ITS FALSE NEIGHBOUR: 'it returns false'. Refute it at one input. -/
def soundJoinsWrong : ChangeSpec := { name := "soundJoins", fn := fun _ => fun
  | [d1, d2] => { results := [.lit (.bool false)], args := [d1, d2] }
  | _ => none }
def SoundJoinsWrongFalsely : Prop := soundJoinsRow.holds Tryz.pinned (OpenSpec.ofChange soundJoinsWrong)

/-- 'vyakaranalaw01.SoundSplits': WHATEVER THE INPUT: true; the input reads as it did. -/
def soundSplitsSpec : ChangeSpec := { name := "soundSplits", fn := fun _ => fun
  | [d1, d2, d3] => { results := [.lit (.bool true)], args := [d1, d2, d3] }
  | _ => none }
def soundSplitsRow : OpenClaim := { program := "ytgfgkfkplidncaagreat", sum := "8853d61ed91179446c98fb74da7a407421f947d5fdd0e32cb291de0b4e517e81", func := "vyakarana/vyakaranalaw01.SoundSplits", spec := "soundSplits", inPlace := ["slices.overlaps[[]int]"], unfollowed := true, recurses := true, apart := false }
def SoundSplitsSaid : Prop := soundSplitsRow.holds Tryz.pinned (OpenSpec.ofChange soundSplitsSpec)

/-- ITS FALSE NEIGHBOUR: 'it returns false'. Refute it at one input. -/
def soundSplitsWrong : ChangeSpec := { name := "soundSplits", fn := fun _ => fun
  | [d1, d2, d3] => { results := [.lit (.bool false)], args := [d1, d2, d3] }
  | _ => none }
def SoundSplitsWrongFalsely : Prop := soundSplitsRow.holds Tryz.pinned (OpenSpec.ofChange soundSplitsWrong)

/-- 'vyakaranatop.TopSounds': WHATEVER THE INPUT: true; the input reads as it did. -/
def topSoundsSpec : ChangeSpec := { name := "topSounds", fn := fun _ => fun
  | [d1, d2, d3] => { results := [.lit (.bool true)], args := [d1, d2, d3] }
  | _ => none }
def topSoundsRow : OpenClaim := { program := "ytgfgkfkplidncaagreat", sum := "8853d61ed91179446c98fb74da7a407421f947d5fdd0e32cb291de0b4e517e81", func := "vyakarana/vyakaranatop.TopSounds", spec := "topSounds", unfollowed := true, recurses := true, apart := false }
def TopSoundsSaid : Prop := topSoundsRow.holds Tryz.pinned (OpenSpec.ofChange topSoundsSpec)

/-- ITS FALSE NEIGHBOUR: 'it returns false'. Refute it at one input. -/
def topSoundsWrong : ChangeSpec := { name := "topSounds", fn := fun _ => fun
  | [d1, d2, d3] => { results := [.lit (.bool false)], args := [d1, d2, d3] }
  | _ => none }
def TopSoundsWrongFalsely : Prop := topSoundsRow.holds Tryz.pinned (OpenSpec.ofChange topSoundsWrong)

/- THE SECOND FORM. 'bulk': how many values and letters a reading holds, each counted each time it is reached (what is shared counts as often as it is met; a slice's spare places count too). A statement '..UptoSaid' is the law's where the arguments, and the package variables that the reading takes, are together of bulk at most 1048576: NARROWER than '..Said'. Prove '..Said' where nothing that the law and all that it calls make is longer than what came in: it says more and counts as full. Else prove '..UptoSaid'. A law counts once. -/
mutual
def uptoBulk {H : Type} : DataW H → Nat
  | .lit (.string bytes) => bytes.length + 1
  | .lit _ => 1
  | .nil => 1
  | .ptr d => uptoBulk d + 1
  | .slice elems spare => uptoBulkAll elems + uptoBulkAll spare + 1
  | .agg parts => uptoBulkAll parts + 1
  | .iface _ d => uptoBulk d + 1
  | .map entries => uptoBulkEntries entries + 1
  | .held _ => 1
def uptoBulkAll {H : Type} : List (DataW H) → Nat
  | [] => 0
  | d :: r => uptoBulk d + uptoBulkAll r
def uptoBulkEntries {H : Type} : List (Lit × DataW H) → Nat
  | [] => 0
  | x :: r => uptoBulkEntry x + uptoBulkEntries r
def uptoBulkEntry {H : Type} : Lit × DataW H → Nat
  | (.string bytes, d) => bytes.length + uptoBulk d + 1
  | (_, d) => uptoBulk d + 1
 end
def uptoSmall : (H : Type) → List (DataW H) → Bool := fun _ ds => decide (uptoBulkAll ds ≤ 1048576)
def OpenSpec.upto (s : _root_.Go.ChangeSpec) : _root_.Go.OpenSpec := { _root_.Go.OpenSpec.ofChange s with cond := some uptoSmall }

/-- 'vyakaranalaw01.SoundNamed', WHERE WHAT IT READS IS OF BULK AT MOST 1048576: true; the input reads as it did. -/
def soundNamedUptoRow : OpenClaim := { program := "ytgfgkfkplidncaagreat", sum := "8853d61ed91179446c98fb74da7a407421f947d5fdd0e32cb291de0b4e517e81", func := "vyakarana/vyakaranalaw01.SoundNamed", spec := "soundNamed", unfollowed := true, recurses := true, apart := false, narrowed := true }
def SoundNamedUptoSaid : Prop := soundNamedUptoRow.holds Tryz.pinned (OpenSpec.upto soundNamedSpec)

/-- 'vyakaranalaw01.SoundChecks', WHERE WHAT IT READS IS OF BULK AT MOST 1048576: true; the input reads as it did. -/
def soundChecksUptoRow : OpenClaim := { program := "ytgfgkfkplidncaagreat", sum := "8853d61ed91179446c98fb74da7a407421f947d5fdd0e32cb291de0b4e517e81", func := "vyakarana/vyakaranalaw01.SoundChecks", spec := "soundChecks", unfollowed := true, recurses := true, apart := false, narrowed := true }
def SoundChecksUptoSaid : Prop := soundChecksUptoRow.holds Tryz.pinned (OpenSpec.upto soundChecksSpec)

/-- 'vyakaranalaw01.SoundMakes', WHERE WHAT IT READS IS OF BULK AT MOST 1048576: true; the input reads as it did. -/
def soundMakesUptoRow : OpenClaim := { program := "ytgfgkfkplidncaagreat", sum := "8853d61ed91179446c98fb74da7a407421f947d5fdd0e32cb291de0b4e517e81", func := "vyakarana/vyakaranalaw01.SoundMakes", spec := "soundMakes", unfollowed := true, recurses := true, apart := false, narrowed := true }
def SoundMakesUptoSaid : Prop := soundMakesUptoRow.holds Tryz.pinned (OpenSpec.upto soundMakesSpec)

/-- 'vyakaranalaw01.SoundRenames', WHERE WHAT IT READS IS OF BULK AT MOST 1048576: true; the input reads as it did. -/
def soundRenamesUptoRow : OpenClaim := { program := "ytgfgkfkplidncaagreat", sum := "8853d61ed91179446c98fb74da7a407421f947d5fdd0e32cb291de0b4e517e81", func := "vyakarana/vyakaranalaw01.SoundRenames", spec := "soundRenames", unfollowed := true, recurses := true, apart := false, narrowed := true }
def SoundRenamesUptoSaid : Prop := soundRenamesUptoRow.holds Tryz.pinned (OpenSpec.upto soundRenamesSpec)

/-- 'vyakaranalaw01.SoundMarks', WHERE WHAT IT READS IS OF BULK AT MOST 1048576: true; the input reads as it did. -/
def soundMarksUptoRow : OpenClaim := { program := "ytgfgkfkplidncaagreat", sum := "8853d61ed91179446c98fb74da7a407421f947d5fdd0e32cb291de0b4e517e81", func := "vyakarana/vyakaranalaw01.SoundMarks", spec := "soundMarks", unfollowed := true, recurses := true, apart := false, narrowed := true }
def SoundMarksUptoSaid : Prop := soundMarksUptoRow.holds Tryz.pinned (OpenSpec.upto soundMarksSpec)

/-- 'vyakaranalaw01.SoundJoins', WHERE WHAT IT READS IS OF BULK AT MOST 1048576: true; the input reads as it did. -/
def soundJoinsUptoRow : OpenClaim := { program := "ytgfgkfkplidncaagreat", sum := "8853d61ed91179446c98fb74da7a407421f947d5fdd0e32cb291de0b4e517e81", func := "vyakarana/vyakaranalaw01.SoundJoins", spec := "soundJoins", inPlace := ["slices.overlaps[[]int]"], unfollowed := true, recurses := true, apart := false, narrowed := true }
def SoundJoinsUptoSaid : Prop := soundJoinsUptoRow.holds Tryz.pinned (OpenSpec.upto soundJoinsSpec)

/-- 'vyakaranalaw01.SoundSplits', WHERE WHAT IT READS IS OF BULK AT MOST 1048576: true; the input reads as it did. -/
def soundSplitsUptoRow : OpenClaim := { program := "ytgfgkfkplidncaagreat", sum := "8853d61ed91179446c98fb74da7a407421f947d5fdd0e32cb291de0b4e517e81", func := "vyakarana/vyakaranalaw01.SoundSplits", spec := "soundSplits", inPlace := ["slices.overlaps[[]int]"], unfollowed := true, recurses := true, apart := false, narrowed := true }
def SoundSplitsUptoSaid : Prop := soundSplitsUptoRow.holds Tryz.pinned (OpenSpec.upto soundSplitsSpec)

/-- 'vyakaranatop.TopSounds', WHERE WHAT IT READS IS OF BULK AT MOST 1048576: true; the input reads as it did. -/
def topSoundsUptoRow : OpenClaim := { program := "ytgfgkfkplidncaagreat", sum := "8853d61ed91179446c98fb74da7a407421f947d5fdd0e32cb291de0b4e517e81", func := "vyakarana/vyakaranatop.TopSounds", spec := "topSounds", unfollowed := true, recurses := true, apart := false, narrowed := true }
def TopSoundsUptoSaid : Prop := topSoundsUptoRow.holds Tryz.pinned (OpenSpec.upto topSoundsSpec)

end Rows
end Go.Proofs.YtgfgkfkplidncaaGreat
