/- Part 5 of the proof: the value layer and the contracts of the functions that the statement reaches; proved without conditions beyond those each theorem states. -/
import Derived.Test.YtkhddecnllcaiaaProg
import Derived.RangeFuncBox
import Derived.RangeFuncLeaves
import Derived.Shelf.Abstract
import Derived.OwnWalkIn
import Derived.TacticsInMore
import Derived.LoopNIn
import Derived.LoopIn
import Derived.Test.YtkhddecnllcaiaaV3
import Derived.Test.YtkhddecnllcaiaaV4
set_option linter.unusedSimpArgs false
set_option linter.unusedVariables false

section
/- The table of types of the cut, and that it is right. (written by types.py) -/
set_option maxRecDepth 8000
namespace Go.Proofs.Ytkhddecnllcaiaa
open Go.Abs

def rows : List (Nat × TI) := [
  (2, ⟨1, 8, .int .i64, .raw (.int .i64 0), false⟩),
  (3, ⟨1, 8, .int .i64, .raw (.int .i64 0), false⟩),
  (4, ⟨1, 1, .bool, .raw (.bool false), false⟩),
  (5, ⟨1, 1, .int .u8, .raw (.int .u8 0), false⟩),
  (9, ⟨1, 16, .str, .raw (.string ByteArray.empty), false⟩),
  (12, ⟨1, 8, .int .u64, .raw (.int .u64 0), false⟩),
  (13, ⟨2, 24, .struct [(0, 1, 9), (1, 1, 12)], .agg [.raw (.string ByteArray.empty), .raw (.int .u64 0)], false⟩),
  (21, ⟨1, 4, .int .i32, .raw (.int .i32 0), false⟩),
  (22, ⟨1, 24, .slice 3, .seq 1 [] true, false⟩),
  (23, ⟨4, 80, .struct [(0, 1, 3), (1, 1, 22), (2, 1, 22), (3, 1, 22)], .agg [.raw (.int .i64 0), .seq 1 [] true, .seq 1 [] true, .seq 1 [] true], false⟩),
  (24, ⟨4, 80, .struct [(0, 1, 3), (1, 1, 22), (2, 1, 22), (3, 1, 22)], .agg [.raw (.int .i64 0), .seq 1 [] true, .seq 1 [] true, .seq 1 [] true], false⟩),
  (25, ⟨8, 160, .struct [(0, 4, 24), (4, 4, 24)], .agg [.raw (.int .i64 0), .seq 1 [] true, .seq 1 [] true, .seq 1 [] true, .raw (.int .i64 0), .seq 1 [] true, .seq 1 [] true, .seq 1 [] true], false⟩),
  (26, ⟨8, 160, .struct [(0, 4, 24), (4, 4, 24)], .agg [.raw (.int .i64 0), .seq 1 [] true, .seq 1 [] true, .seq 1 [] true, .raw (.int .i64 0), .seq 1 [] true, .seq 1 [] true, .seq 1 [] true], false⟩),
  (27, ⟨1, 8, .int .i64, .raw (.int .i64 0), false⟩),
  (41, ⟨1, 24, .slice 24, .seq 4 [] true, false⟩),
  (45, ⟨1, 24, .slice 22, .seq 1 [] true, false⟩),
  (54, ⟨1, 8, .int .u64, .raw (.int .u64 0), false⟩),
  (55, ⟨1, 24, .slice 108, .seq 2 [] true, false⟩),
  (75, ⟨7, 7, .array 7 4, .agg [.raw (.bool false), .raw (.bool false), .raw (.bool false), .raw (.bool false), .raw (.bool false), .raw (.bool false), .raw (.bool false)], true⟩),
  (76, ⟨7, 7, .array 7 4, .agg [.raw (.bool false), .raw (.bool false), .raw (.bool false), .raw (.bool false), .raw (.bool false), .raw (.bool false), .raw (.bool false)], true⟩),
  (86, ⟨1, 8, .flat, .raw (.pointer none), false⟩),
  (91, ⟨1, 8, .map 9 3 .str, .raw (.map none), false⟩),
  (92, ⟨5, 104, .struct [(0, 1, 41), (1, 1, 45), (2, 1, 91), (3, 1, 22), (4, 1, 55)], .agg [.seq 4 [] true, .seq 1 [] true, .raw (.map none), .seq 1 [] true, .seq 2 [] true], false⟩),
  (93, ⟨5, 104, .struct [(0, 1, 41), (1, 1, 45), (2, 1, 91), (3, 1, 22), (4, 1, 55)], .agg [.seq 4 [] true, .seq 1 [] true, .raw (.map none), .seq 1 [] true, .seq 2 [] true], false⟩),
  (98, ⟨1, 24, .slice 99, .seq 1 [] true, false⟩),
  (99, ⟨1, 24, .slice 4, .seq 1 [] true, false⟩),
  (103, ⟨1, 8, .flat, .raw .nilFunc, false⟩),
  (105, ⟨1, 24, .slice 114, .seq 3 [] true, false⟩),
  (107, ⟨2, 16, .struct [(0, 1, 3), (1, 1, 3)], .agg [.raw (.int .i64 0), .raw (.int .i64 0)], true⟩),
  (108, ⟨2, 16, .struct [(0, 1, 3), (1, 1, 3)], .agg [.raw (.int .i64 0), .raw (.int .i64 0)], true⟩),
  (113, ⟨3, 40, .struct [(0, 2, 108), (2, 1, 22)], .agg [.raw (.int .i64 0), .raw (.int .i64 0), .seq 1 [] true], false⟩),
  (114, ⟨3, 40, .struct [(0, 2, 108), (2, 1, 22)], .agg [.raw (.int .i64 0), .raw (.int .i64 0), .seq 1 [] true], false⟩),
  (118, ⟨3, 72, .struct [(0, 1, 45), (1, 1, 45), (2, 1, 22)], .agg [.seq 1 [] true, .seq 1 [] true, .seq 1 [] true], false⟩),
  (119, ⟨3, 72, .struct [(0, 1, 45), (1, 1, 45), (2, 1, 22)], .agg [.seq 1 [] true, .seq 1 [] true, .seq 1 [] true], false⟩),
  (133, ⟨1, 8, .flat, .raw .nilFunc, false⟩),
  (136, ⟨1, 24, .slice 5, .seq 1 [] true, false⟩),
  (137, ⟨1, 8, .flat, .raw .nilFunc, false⟩),
  (141, ⟨1, 8, .flat, .raw .nilFunc, false⟩),
  (149, ⟨1, 4, .int .u32, .raw (.int .u32 0), false⟩),
  (152, ⟨1, 8, .int .u64, .raw (.int .u64 0), false⟩),
  (156, ⟨1, 8, .int .i64, .raw (.int .i64 0), false⟩),
  (167, ⟨1, 8, .int .u64, .raw (.int .u64 0), false⟩),
  (171, ⟨1, 8, .flat, .raw (.pointer none), false⟩),
  (173, ⟨1, 8, .flat, .raw (.pointer none), false⟩),
  (187, ⟨1, 8, .flat, .raw (.pointer none), false⟩)]
def T : TT := findT rows
theorem T_2 : T 2 = some ⟨1, 8, .int .i64, .raw (.int .i64 0), false⟩ := by kernel_rfl
theorem T_3 : T 3 = some ⟨1, 8, .int .i64, .raw (.int .i64 0), false⟩ := by kernel_rfl
theorem T_4 : T 4 = some ⟨1, 1, .bool, .raw (.bool false), false⟩ := by kernel_rfl
theorem T_5 : T 5 = some ⟨1, 1, .int .u8, .raw (.int .u8 0), false⟩ := by kernel_rfl
theorem T_22 : T 22 = some ⟨1, 24, .slice 3, .seq 1 [] true, false⟩ := by kernel_rfl
theorem T_23 : T 23 = some ⟨4, 80, .struct [(0, 1, 3), (1, 1, 22), (2, 1, 22), (3, 1, 22)], .agg [.raw (.int .i64 0), .seq 1 [] true, .seq 1 [] true, .seq 1 [] true], false⟩ := by kernel_rfl
theorem T_24 : T 24 = some ⟨4, 80, .struct [(0, 1, 3), (1, 1, 22), (2, 1, 22), (3, 1, 22)], .agg [.raw (.int .i64 0), .seq 1 [] true, .seq 1 [] true, .seq 1 [] true], false⟩ := by kernel_rfl
theorem T_25 : T 25 = some ⟨8, 160, .struct [(0, 4, 24), (4, 4, 24)], .agg [.raw (.int .i64 0), .seq 1 [] true, .seq 1 [] true, .seq 1 [] true, .raw (.int .i64 0), .seq 1 [] true, .seq 1 [] true, .seq 1 [] true], false⟩ := by kernel_rfl
theorem T_26 : T 26 = some ⟨8, 160, .struct [(0, 4, 24), (4, 4, 24)], .agg [.raw (.int .i64 0), .seq 1 [] true, .seq 1 [] true, .seq 1 [] true, .raw (.int .i64 0), .seq 1 [] true, .seq 1 [] true, .seq 1 [] true], false⟩ := by kernel_rfl
theorem T_27 : T 27 = some ⟨1, 8, .int .i64, .raw (.int .i64 0), false⟩ := by kernel_rfl
theorem T_41 : T 41 = some ⟨1, 24, .slice 24, .seq 4 [] true, false⟩ := by kernel_rfl
theorem T_45 : T 45 = some ⟨1, 24, .slice 22, .seq 1 [] true, false⟩ := by kernel_rfl
theorem T_55 : T 55 = some ⟨1, 24, .slice 108, .seq 2 [] true, false⟩ := by kernel_rfl
theorem T_75 : T 75 = some ⟨7, 7, .array 7 4, .agg [.raw (.bool false), .raw (.bool false), .raw (.bool false), .raw (.bool false), .raw (.bool false), .raw (.bool false), .raw (.bool false)], true⟩ := by kernel_rfl
theorem T_76 : T 76 = some ⟨7, 7, .array 7 4, .agg [.raw (.bool false), .raw (.bool false), .raw (.bool false), .raw (.bool false), .raw (.bool false), .raw (.bool false), .raw (.bool false)], true⟩ := by kernel_rfl
theorem T_105 : T 105 = some ⟨1, 24, .slice 114, .seq 3 [] true, false⟩ := by kernel_rfl
theorem T_107 : T 107 = some ⟨2, 16, .struct [(0, 1, 3), (1, 1, 3)], .agg [.raw (.int .i64 0), .raw (.int .i64 0)], true⟩ := by kernel_rfl
theorem T_108 : T 108 = some ⟨2, 16, .struct [(0, 1, 3), (1, 1, 3)], .agg [.raw (.int .i64 0), .raw (.int .i64 0)], true⟩ := by kernel_rfl
theorem T_113 : T 113 = some ⟨3, 40, .struct [(0, 2, 108), (2, 1, 22)], .agg [.raw (.int .i64 0), .raw (.int .i64 0), .seq 1 [] true], false⟩ := by kernel_rfl
theorem T_114 : T 114 = some ⟨3, 40, .struct [(0, 2, 108), (2, 1, 22)], .agg [.raw (.int .i64 0), .raw (.int .i64 0), .seq 1 [] true], false⟩ := by kernel_rfl
theorem tokRows : (rows.all fun r => rowOK Try.prog r.1 r.2) = true := by kernel_rfl
theorem mixed : Try.prog.follows .mixedOrders = true := by kernel_rfl
theorem eqRows : ∀ r ∈ rows.filter fun r => r.2.eq, EqR Try.prog r.1 r.2.zero := by
  intro r hr
  have he : rows.filter (fun r => r.2.eq) = [(75, ⟨7, 7, .array 7 4, .agg [.raw (.bool false), .raw (.bool false), .raw (.bool false), .raw (.bool false), .raw (.bool false), .raw (.bool false), .raw (.bool false)], true⟩), (76, ⟨7, 7, .array 7 4, .agg [.raw (.bool false), .raw (.bool false), .raw (.bool false), .raw (.bool false), .raw (.bool false), .raw (.bool false), .raw (.bool false)], true⟩), (107, ⟨2, 16, .struct [(0, 1, 3), (1, 1, 3)], .agg [.raw (.int .i64 0), .raw (.int .i64 0)], true⟩), (108, ⟨2, 16, .struct [(0, 1, 3), (1, 1, 3)], .agg [.raw (.int .i64 0), .raw (.int .i64 0)], true⟩)] := rfl
  rw [he] at hr
  simp only [List.mem_cons, List.not_mem_nil, or_false] at hr
  rcases hr with rfl | rfl | rfl | rfl
  · exact eqR_arr7 Try.underlying75 Try.underlying4 (fun w => Try.sizeOf4 w) Try.eqGuardType75
  · exact eqR_arr7 Try.underlying76 Try.underlying4 (fun w => Try.sizeOf4 w) Try.eqGuardType76
  · exact eqR_struct Try.underlying107 Try.stoodInHeld107 Try.eqGuardType107 (by kernel_rfl)
  · exact eqR_struct Try.underlying108 Try.stoodInHeld108 Try.eqGuardType108 (by kernel_rfl)
theorem tok : TOK Try.prog T := tok_of rows tokRows fun r hr he => eqRows r (List.mem_filter.2 ⟨hr, he⟩)
attribute [irreducible] T
end Go.Proofs.Ytkhddecnllcaiaa
end

section
/- Functions of the cut as the value layer reads them. (written by gen.py) -/
set_option maxRecDepth 20000
namespace Go.Proofs.Ytkhddecnllcaiaa
open Go.Abs Go

def A50 : ACode :=
  (.seq (.reg [] [⟨some 2, (.assign (.const (.slice none 0 0))), 22, none⟩])
    (.seq (.seq (.reg [] [⟨some 3, (.move (.tmp 0)), 22, none⟩,
      ⟨some 4, (.binOp .eql 22 (.tmp 3) (.const (.slice none 0 0)) 22), 4, none⟩])
    (.cond (.tmp 4)
    (.seq (.reg [] [⟨some 2, (.assign (.const (.slice none 0 0))), 22, none⟩])
    .ret)
    .skip))
    (.seq (.reg [] [⟨some 5, (.buildSlice 22 0 #[]), 22, none⟩,
      ⟨some 6, (.move (.tmp 0)), 22, none⟩,
      ⟨some 7, (.call ⟨(.builtin .append), #[(.tmp 5), (.tmp 6)], #[22, 22]⟩), 22, none⟩,
      ⟨some 2, (.assign (.tmp 7)), 22, none⟩])
    .ret)))
theorem CO50 {args : List AV} {sz : Nat} {els : List AV} (hn : args.length ≤ 8) (h : vc Try.prog T [] A50 (FinO [(.tmp 2)] sz els) ⟨envOf 0 args, []⟩) : CallO Try.prog 50 args sz els :=
  callO_of tok mixed Try.func50 (by kernel_rfl) (by kernel_rfl) (by kernel_rfl : Try.f50.ntmps = 8) (by kernel_rfl : Try.f50.body.bind (strip 8 (fun _ => [])) = some A50) hn h
def A110 : ACode :=
  (.seq (.reg [] [⟨some 4, (.assign (.const (.slice none 0 0))), 22, none⟩])
    (.seq (.seq (.reg [] [⟨some 5, (.move (.tmp 1)), 3, none⟩,
      ⟨some 6, (.binOp .lss 3 (.tmp 5) (.const (.int .i64 0)) 3), 4, none⟩])
    (.cond (.tmp 6)
    (.reg [] [⟨some 7, (.makeInterface 9 (.const (.string ⟨#[99, 97, 110, 110, 111, 116, 32, 98, 101, 32, 110, 101, 103, 97, 116, 105, 118, 101]⟩))), 20, none⟩,
      ⟨none, (.panic (.tmp 7)), 0, none⟩])
    .skip))
    (.seq (.seq (.reg [] [⟨some 8, (.move (.tmp 1)), 3, none⟩,
      ⟨some 9, (.move (.tmp 0)), 22, none⟩,
      ⟨some 10, (.call ⟨(.builtin .cap), #[(.tmp 9)], #[22]⟩), 3, none⟩,
      ⟨some 11, (.move (.tmp 0)), 22, none⟩,
      ⟨some 12, (.call ⟨(.builtin .len), #[(.tmp 11)], #[22]⟩), 3, none⟩,
      ⟨some 13, (.binOp .sub 3 (.tmp 10) (.tmp 12) 3), 3, none⟩,
      ⟨some 14, (.binOp .sub 3 (.tmp 8) (.tmp 13) 3), 3, none⟩,
      ⟨some 1, (.assign (.tmp 14)), 3, none⟩])
    (.seq (.reg [] [⟨some 15, (.move (.tmp 1)), 3, none⟩,
      ⟨some 16, (.binOp .gtr 3 (.tmp 15) (.const (.int .i64 0)) 3), 4, none⟩])
    (.cond (.tmp 16)
    (.reg [] [⟨some 17, (.move (.tmp 0)), 22, none⟩,
      ⟨some 18, (.move (.tmp 0)), 22, none⟩,
      ⟨some 19, (.call ⟨(.builtin .cap), #[(.tmp 18)], #[22]⟩), 3, none⟩,
      ⟨some 20, (.slice 22 (.tmp 17) none (some (.tmp 19)) none), 22, none⟩,
      ⟨some 21, (.move (.tmp 1)), 3, none⟩,
      ⟨some 22, (.call ⟨(.builtin .append), #[(.tmp 20), (.tmp 21)], #[22, 3]⟩), 22, none⟩,
      ⟨some 23, (.move (.tmp 0)), 22, none⟩,
      ⟨some 24, (.call ⟨(.builtin .len), #[(.tmp 23)], #[22]⟩), 3, none⟩,
      ⟨some 25, (.slice 22 (.tmp 22) none (some (.tmp 24)) none), 22, none⟩,
      ⟨some 0, (.assign (.tmp 25)), 22, none⟩])
    .skip)))
    (.seq (.reg [] [⟨some 26, (.move (.tmp 0)), 22, none⟩,
      ⟨some 4, (.assign (.tmp 26)), 22, none⟩])
    .ret))))
theorem CO110 {args : List AV} {sz : Nat} {els : List AV} (hn : args.length ≤ 27) (h : vc Try.prog T [] A110 (FinO [(.tmp 4)] sz els) ⟨envOf 0 args, []⟩) : CallO Try.prog 110 args sz els :=
  callO_of tok mixed Try.func110 (by kernel_rfl) (by kernel_rfl) (by kernel_rfl : Try.f110.ntmps = 27) (by kernel_rfl : Try.f110.body.bind (strip 27 (fun _ => [])) = some A110) hn h
def A93 : ACode :=
  (.seq (.reg [] [⟨some 2, (.assign (.const (.slice none 0 0))), 22, none⟩])
    (.seq (.reg [] [⟨some 3, (.assign (.const (.int .i64 0))), 3, none⟩])
    (.seq (.seq (.reg [] [⟨some 9, (.move (.tmp 0)), 45, none⟩,
      ⟨some 10, (.call ⟨(.builtin .len), #[(.tmp 9)], #[45]⟩), 3, none⟩,
      ⟨some 11, (.move (.const (.int .i64 0))), 3, none⟩])
    (.block 0 (.loop (.seq (.reg [] [⟨some 12, (.binOp .lss 3 (.tmp 11) (.tmp 10) 3), 0, none⟩])
    (.seq (.cond (.tmp 12)
    .skip
    (.exit 0))
    (.seq (.block 1 (.seq (.reg [] [⟨some 13, (.indexAddr 45 (.tmp 9) (.tmp 11)), 0, none⟩,
      ⟨some 14, (.load 22 (.tmp 13)), 22, none⟩,
      ⟨some 5, (.assign (.tmp 14)), 22, none⟩])
    (.seq (.reg [] [⟨some 15, (.move (.tmp 3)), 3, none⟩,
      ⟨some 16, (.move (.tmp 5)), 22, none⟩,
      ⟨some 17, (.call ⟨(.builtin .len), #[(.tmp 16)], #[22]⟩), 3, none⟩,
      ⟨some 18, (.binOp .add 3 (.tmp 15) (.tmp 17) 3), 3, none⟩,
      ⟨some 3, (.assign (.tmp 18)), 3, none⟩])
    (.seq (.reg [] [⟨some 19, (.move (.tmp 3)), 3, none⟩,
      ⟨some 20, (.binOp .lss 3 (.tmp 19) (.const (.int .i64 0)) 3), 4, none⟩])
    (.cond (.tmp 20)
    (.reg [] [⟨some 21, (.makeInterface 9 (.const (.string ⟨#[108, 101, 110, 32, 111, 117, 116, 32, 111, 102, 32, 114, 97, 110, 103, 101]⟩))), 20, none⟩,
      ⟨none, (.panic (.tmp 21)), 0, none⟩])
    .skip)))))
    (.reg [] [⟨some 22, (.binOp .add 3 (.tmp 11) (.const (.int .i64 1)) 3), 3, none⟩,
      ⟨some 11, (.move (.tmp 22)), 3, none⟩])))))))
    (.seq (.reg [] [⟨some 23, (.move (.tmp 3)), 3, none⟩,
      ⟨some 24, (.call ⟨(.value (.func 110)), #[(.const (.slice none 0 0)), (.tmp 23)], #[22, 3]⟩), 22, none⟩,
      ⟨some 6, (.assign (.tmp 24)), 22, none⟩])
    (.seq (.seq (.reg [] [⟨some 25, (.move (.tmp 0)), 45, none⟩,
      ⟨some 26, (.call ⟨(.builtin .len), #[(.tmp 25)], #[45]⟩), 3, none⟩,
      ⟨some 27, (.move (.const (.int .i64 0))), 3, none⟩])
    (.block 2 (.loop (.seq (.reg [] [⟨some 28, (.binOp .lss 3 (.tmp 27) (.tmp 26) 3), 0, none⟩])
    (.seq (.cond (.tmp 28)
    .skip
    (.exit 2))
    (.seq (.block 3 (.seq (.reg [] [⟨some 29, (.indexAddr 45 (.tmp 25) (.tmp 27)), 0, none⟩,
      ⟨some 30, (.load 22 (.tmp 29)), 22, none⟩,
      ⟨some 8, (.assign (.tmp 30)), 22, none⟩])
    (.reg [] [⟨some 31, (.move (.tmp 6)), 22, none⟩,
      ⟨some 32, (.move (.tmp 8)), 22, none⟩,
      ⟨some 33, (.call ⟨(.builtin .append), #[(.tmp 31), (.tmp 32)], #[22, 22]⟩), 22, none⟩,
      ⟨some 6, (.assign (.tmp 33)), 22, none⟩])))
    (.reg [] [⟨some 34, (.binOp .add 3 (.tmp 27) (.const (.int .i64 1)) 3), 3, none⟩,
      ⟨some 27, (.move (.tmp 34)), 3, none⟩])))))))
    (.seq (.reg [] [⟨some 35, (.move (.tmp 6)), 22, none⟩,
      ⟨some 2, (.assign (.tmp 35)), 22, none⟩])
    .ret))))))
theorem CO93 {args : List AV} {sz : Nat} {els : List AV} (hn : args.length ≤ 36) (h : vc Try.prog T [] A93 (FinO [(.tmp 2)] sz els) ⟨envOf 0 args, []⟩) : CallO Try.prog 93 args sz els :=
  callO_of tok mixed Try.func93 (by kernel_rfl) (by kernel_rfl) (by kernel_rfl : Try.f93.ntmps = 36) (by kernel_rfl : Try.f93.body.bind (strip 36 (fun _ => [])) = some A93) hn h

end Go.Proofs.Ytkhddecnllcaiaa
end

section
/- The values of the program: numbers, words, rules, steps, choices. -/
namespace Go.Proofs.Ytkhddecnllcaiaa
open Go.Abs Go

@[simp] def iv (n : Int) : AV := .raw (.int .i64 n)
@[simp] def bv (b : Bool) : AV := .raw (.bool b)
@[simp] def ints (l : List Int) : AV := .seq 1 (l.map iv) false
structure Rule where
  frm : Int
  to : List Int
  left : List Int
  right : List Int
deriving DecidableEq
instance : Inhabited Rule := ⟨⟨0, [], [], []⟩⟩
@[simp] def ruleV (r : Rule) : AV := .agg [iv r.frm, ints r.to, ints r.left, ints r.right]
@[simp] def rulesV (s : List Rule) : AV := .seq 4 (s.map ruleV) false
structure Step where
  rule : Int
  place : Int
deriving DecidableEq
instance : Inhabited Step := ⟨⟨0, 0⟩⟩
@[simp] def stepV (x : Step) : AV := .agg [iv x.rule, iv x.place]
@[simp] def stepsV (l : List Step) : AV := .seq 2 (l.map stepV) false
structure Choice where
  rule : Int
  place : Int
  ground : Int
deriving DecidableEq
instance : Inhabited Choice := ⟨⟨0, 0, 0⟩⟩
@[simp] def choiceV (x : Choice) : AV := .agg [iv x.rule, iv x.place, iv x.ground]
@[simp] def choicesV (l : List Choice) : AV := .seq 3 (l.map choiceV) false

@[simp] theorem nth_iv (l : List Int) (k : Nat) (h : k < l.length) : nth (l.map iv) k = iv (el l k) := nth_map iv l k h
@[simp] theorem nth_ints (l : List (List Int)) (k : Nat) (h : k < l.length) : nth (l.map ints) k = ints (el l k) := nth_map ints l k h
@[simp] theorem nth_rule (l : List Rule) (k : Nat) (h : k < l.length) : nth (l.map ruleV) k = ruleV (el l k) := nth_map ruleV l k h
@[simp] theorem nth_step (l : List Step) (k : Nat) (h : k < l.length) : nth (l.map stepV) k = stepV (el l k) := nth_map stepV l k h
@[simp] theorem nth_choice (l : List Choice) (k : Nat) (h : k < l.length) : nth (l.map choiceV) k = choiceV (el l k) := nth_map choiceV l k h

@[simp] theorem refsL_bv : ∀ l : List Bool, AV.refsL (l.map bv) = []
  | [] => rfl
  | b :: l => by simp [refsL_bv l]
@[simp] theorem snapL_bv (m : List (Nat × Option Box)) : ∀ l : List Bool, snapL m (l.map bv) = l.map bv
  | [] => rfl
  | b :: l => by simp [snapL_bv m l]
@[simp] theorem snapOKL_bv (m : List (Nat × Option Box)) : ∀ l : List Bool, snapOKL m (l.map bv)
  | [] => trivial
  | b :: l => ⟨trivial, snapOKL_bv m l⟩
@[simp] theorem nth_nil (k : Nat) : nth [] k = .junk := rfl
@[simp] theorem nth_len {α : Type} (f : α → AV) (l : List α) : nth (l.map f) l.length = .junk := by simp [nth, List.getD_eq_getElem?_getD]

attribute [simp] bad T_2 T_3 T_4 T_5 T_41 T_22 T_27 T_107 T_108 T_45 T_23 T_24 T_55 T_105 T_75 T_76 T_113 T_114
end Go.Proofs.Ytkhddecnllcaiaa
end

section
/- Contracts: leaves. -/
namespace Go.Proofs.Ytkhddecnllcaiaa
open Go.Abs Go

end Go.Proofs.Ytkhddecnllcaiaa
end

section
/- Contracts: grounds. -/
namespace Go.Proofs.Ytkhddecnllcaiaa
open Go.Abs Go

end Go.Proofs.Ytkhddecnllcaiaa
end

section
/- Contracts: the library's slices. -/
namespace Go.Proofs.Ytkhddecnllcaiaa
open Go.Abs Go
set_option maxRecDepth 20000
set_option maxHeartbeats 2000000
attribute [local irreducible] PreK CondK CallK CallG CallX LoopK

theorem clone_o (l : List Int) (hl : l.length ≤ 1000) : CallO Try.prog 50 [ints l] 1 (l.map iv) := by
  refine CO50 (by simp) ?_
  simp [A50, nilOK, nilArg, nilOf]
  intro b hb
  refine CondK.intro (fun h => ?_) (fun h => ?_)
  · simp at h
    have h2 := hb h
    simp at h2
    subst h2
    simp
  · simp
    refine PreK.intro (by omega) fun _ => ?_
    simp

theorem grow_o (n : Nat) (hn : n ≤ 1000) : CallO Try.prog 110 [.seq 1 [] true, iv n] 1 [] := by
  refine CO110 (by simp) ?_
  simp [A110]
  refine CondK.intro (fun h => ?_) (fun h => ?_)
  · simp at h
    omega
  · simp
    refine PreK.intro (by omega) fun _ => ?_
    simp
    refine CondK.intro (fun h => ?_) (fun h => ?_)
    · simp at h
      simp
      refine PreK.intro (by omega) fun _ => ?_
      simp
    · simp

theorem concat_o (ls : List (List Int)) (hn : ls.length ≤ 10) (hs : ls.flatten.length ≤ 900) : CallO Try.prog 93 [.seq 1 (ls.map ints) false] 1 (ls.flatten.map iv) := by
  refine CO93 (by simp) ?_
  generalize hR : ls.flatten = R at hs
  simp [A93]
  refine LoopK.by (ι := Nat × Nat) (fun i => ⟨[(11, iv i.1), (10, iv ls.length), (9, .seq 1 (ls.map ints) false), (0, .seq 1 (ls.map ints) false), (3, iv i.2)], []⟩) (fun i => ls.length - i.1)
    (fun i => i.1 ≤ ls.length ∧ i.2 + (ls.drop i.1).flatten.length = R.length) (0, 0) (by simp [← hR]) (by simp) ?_
  intro ⟨i, n⟩ Q' ⟨hi, hc⟩ hq he hr
  dsimp only at hi hc
  simp
  refine CondK.intro (fun h => ?_) (fun h => ?_)
  · simp at h
    rw [drop_cons ls i h, List.flatten_cons, List.length_append] at hc
    simp [h]
    refine PreK.intro (by omega) fun _ => ?_
    simp
    refine CondK.intro (fun h2 => ?_) (fun h2 => ?_)
    · simp at h2
      omega
    · simp
      refine PreK.intro (by omega) fun _ => ?_
      simp
      exact hq (i + 1, n + (el ls i).length) _ ⟨by dsimp only; omega, by dsimp only; omega⟩ (by dsimp only; omega) (by simp)
  · simp at h
    rw [List.drop_eq_nil_of_le (by omega)] at hc
    simp at hc
    simp
    apply he
    simp
    refine CallX.own' (by simpa using grow_o n (by omega)) (by simp) ?_
    simp
    clear hq he hr
    refine LoopK.by (ι := Nat × Nat × List Int) (fun i => ⟨[(27, iv i.1), (26, iv ls.length), (25, .seq 1 (ls.map ints) false), (6, .sl 24 i.2.1 0 i.2.2.length)], [(24, some ⟨1, i.2.2.map iv, i.2.1, false⟩)]⟩) (fun i => ls.length - i.1)
      (fun i => i.1 ≤ ls.length ∧ i.2.2 ++ (ls.drop i.1).flatten = R) (0, 1, []) (by simpa using hR) (by simp) ?_
    intro ⟨i, ver, acc⟩ Q' ⟨hi, hc⟩ hq he hr
    dsimp only at hi hc
    simp
    refine CondK.intro (fun h => ?_) (fun h => ?_)
    · simp at h
      rw [drop_cons ls i h, List.flatten_cons, ← List.append_assoc] at hc
      have hlen : acc.length + (el ls i).length ≤ 900 := by
        have := congrArg List.length hc
        simp only [List.length_append] at this
        omega
      simp [h]
      refine PreK.intro (by omega) fun _ => ?_
      simp
      refine PreK.intro (by omega) fun _ => ?_
      simp
      exact hq (i + 1, ver + 1, acc ++ el ls i) _ ⟨by dsimp only; omega, by dsimp only; exact hc⟩ (by dsimp only; omega) (by simp)
    · simp at h
      rw [List.drop_eq_nil_of_le (by omega)] at hc
      simp at hc
      simp
      apply he
      simp [hc]
end Go.Proofs.Ytkhddecnllcaiaa
end

section
/- Functions of the cut as the value layer reads them. (written by gen.py) -/
set_option maxRecDepth 20000
namespace Go.Proofs.Ytkhddecnllcaiaa
open Go.Abs Go

def A105 : ACode :=
  (.seq (.reg [] [⟨some 6, (.assign (.const (.bool false))), 4, none⟩])
    (.seq (.reg [] [⟨some 7, (.move (.tmp 1)), 3, none⟩,
      ⟨some 8, (.move (.tmp 0)), 3, none⟩,
      ⟨some 9, (.binOp .leq 3 (.tmp 7) (.tmp 8) 3), 4, none⟩,
      ⟨some 10, (.move (.tmp 9)), 4, none⟩,
      ⟨some 11, (.move (.tmp 0)), 3, some (10, true)⟩,
      ⟨some 12, (.move (.tmp 2)), 3, some (10, true)⟩,
      ⟨some 13, (.binOp .leq 3 (.tmp 11) (.tmp 12) 3), 4, some (10, true)⟩,
      ⟨some 14, (.pick (.tmp 10) (.tmp 13) (.const (.bool false))), 4, none⟩,
      ⟨some 6, (.assign (.tmp 14)), 4, none⟩])
    .ret))
theorem C105 {args : List AV} {r : AV} (hn : args.length ≤ 15) (h : vc Try.prog T [] A105 (Fin T [(.tmp 6)] r) ⟨envOf 0 args, []⟩) : CallP Try.prog 105 args r :=
  callP_of tok mixed Try.func105 (by kernel_rfl) (by kernel_rfl) (by kernel_rfl : Try.f105.ntmps = 15) (by kernel_rfl : Try.f105.body.bind (strip 15 (fun _ => [])) = some A105) hn h
def A107 : ACode :=
  (.seq (.reg [] [⟨some 2, (.assign (.const (.bool false))), 4, none⟩])
    (.seq (.reg [] [⟨some 3, (.move (.tmp 0)), 3, none⟩,
      ⟨some 4, (.call ⟨(.value (.func 105)), #[(.tmp 3), (.const (.int .i64 0)), (.const (.int .i64 5))], #[3, 3, 3]⟩), 4, none⟩,
      ⟨some 2, (.assign (.tmp 4)), 4, none⟩])
    .ret))
theorem C107 {args : List AV} {r : AV} (hn : args.length ≤ 5) (h : vc Try.prog T [] A107 (Fin T [(.tmp 2)] r) ⟨envOf 0 args, []⟩) : CallP Try.prog 107 args r :=
  callP_of tok mixed Try.func107 (by kernel_rfl) (by kernel_rfl) (by kernel_rfl : Try.f107.ntmps = 5) (by kernel_rfl : Try.f107.body.bind (strip 5 (fun _ => [])) = some A107) hn h
def A86 : ACode :=
  (.seq (.reg [] [⟨some 2, (.assign (.const (.bool false))), 4, none⟩])
    (.seq (.reg [] [⟨some 3, (.move (.tmp 0)), 3, none⟩,
      ⟨some 4, (.binOp .eql 3 (.tmp 3) (.const (.int .i64 (-1))) 3), 4, none⟩,
      ⟨some 5, (.move (.tmp 4)), 4, none⟩,
      ⟨some 6, (.move (.tmp 0)), 3, some (5, false)⟩,
      ⟨some 7, (.call ⟨(.value (.func 107)), #[(.tmp 6)], #[3]⟩), 4, some (5, false)⟩,
      ⟨some 8, (.pick (.tmp 5) (.const (.bool true)) (.tmp 7)), 4, none⟩,
      ⟨some 2, (.assign (.tmp 8)), 4, none⟩])
    .ret))
theorem C86 {args : List AV} {r : AV} (hn : args.length ≤ 9) (h : vc Try.prog T [] A86 (Fin T [(.tmp 2)] r) ⟨envOf 0 args, []⟩) : CallP Try.prog 86 args r :=
  callP_of tok mixed Try.func86 (by kernel_rfl) (by kernel_rfl) (by kernel_rfl : Try.f86.ntmps = 9) (by kernel_rfl : Try.f86.body.bind (strip 9 (fun _ => [])) = some A86) hn h
def A82 : ACode :=
  (.seq (.reg [] [⟨some 1, (.box 24 (.tmp 0)), 0, none⟩,
      ⟨some 2, (.assign (.const (.int .i64 0))), 3, none⟩])
    (.seq (.seq (.reg [] [⟨some 3, (.fieldAddr 24 (.tmp 1) 0), 0, none⟩,
      ⟨some 4, (.load 3 (.tmp 3)), 3, none⟩,
      ⟨some 5, (.binOp .eql 3 (.tmp 4) (.const (.int .i64 (-1))) 3), 4, none⟩])
    (.cond (.tmp 5)
    (.seq (.reg [] [⟨some 2, (.assign (.const (.int .i64 0))), 3, none⟩])
    .ret)
    .skip))
    (.seq (.reg [] [⟨some 2, (.assign (.const (.int .i64 1))), 3, none⟩])
    .ret)))
theorem C82 {args : List AV} {r : AV} (hn : args.length ≤ 6) (h : vc Try.prog T [] A82 (Fin T [(.tmp 2)] r) ⟨envOf 0 args, []⟩) : CallP Try.prog 82 args r :=
  callP_of tok mixed Try.func82 (by kernel_rfl) (by kernel_rfl) (by kernel_rfl : Try.f82.ntmps = 6) (by kernel_rfl : Try.f82.body.bind (strip 6 (fun _ => [])) = some A82) hn h
def A83 : ACode :=
  (.seq (.reg [] [⟨some 4, (.assign (.const (.int .i64 0))), 3, none⟩])
    (.seq (.seq (.reg [] [⟨some 5, (.move (.tmp 1)), 3, none⟩,
      ⟨some 6, (.move (.tmp 0)), 22, none⟩,
      ⟨some 7, (.call ⟨(.builtin .len), #[(.tmp 6)], #[22]⟩), 3, none⟩,
      ⟨some 8, (.binOp .sub 3 (.tmp 7) (.const (.int .i64 1)) 3), 3, none⟩,
      ⟨some 9, (.call ⟨(.value (.func 105)), #[(.tmp 5), (.const (.int .i64 0)), (.tmp 8)], #[3, 3, 3]⟩), 4, none⟩,
      ⟨some 10, (.unOp .not 4 (.tmp 9)), 4, none⟩])
    (.cond (.tmp 10)
    (.seq (.reg [] [⟨some 4, (.assign (.const (.int .i64 (-1)))), 3, none⟩])
    .ret)
    .skip))
    (.seq (.reg [] [⟨some 11, (.move (.tmp 0)), 22, none⟩,
      ⟨some 12, (.move (.tmp 1)), 3, none⟩,
      ⟨some 13, (.indexAddr 22 (.tmp 11) (.tmp 12)), 0, none⟩,
      ⟨some 14, (.load 3 (.tmp 13)), 3, none⟩,
      ⟨some 4, (.assign (.tmp 14)), 3, none⟩])
    .ret)))
theorem C83 {args : List AV} {r : AV} (hn : args.length ≤ 15) (h : vc Try.prog T [] A83 (Fin T [(.tmp 4)] r) ⟨envOf 0 args, []⟩) : CallP Try.prog 83 args r :=
  callP_of tok mixed Try.func83 (by kernel_rfl) (by kernel_rfl) (by kernel_rfl : Try.f83.ntmps = 15) (by kernel_rfl : Try.f83.body.bind (strip 15 (fun _ => [])) = some A83) hn h
def A108 : ACode :=
  (.seq (.reg [] [⟨some 2, (.assign (.const (.bool false))), 4, none⟩])
    (.seq (.reg [] [⟨some 3, (.move (.tmp 0)), 3, none⟩,
      ⟨some 4, (.call ⟨(.value (.func 107)), #[(.tmp 3)], #[3]⟩), 4, none⟩,
      ⟨some 5, (.unOp .not 4 (.tmp 4)), 4, none⟩,
      ⟨some 2, (.assign (.tmp 5)), 4, none⟩])
    .ret))
theorem C108 {args : List AV} {r : AV} (hn : args.length ≤ 6) (h : vc Try.prog T [] A108 (Fin T [(.tmp 2)] r) ⟨envOf 0 args, []⟩) : CallP Try.prog 108 args r :=
  callP_of tok mixed Try.func108 (by kernel_rfl) (by kernel_rfl) (by kernel_rfl : Try.f108.ntmps = 6) (by kernel_rfl : Try.f108.body.bind (strip 6 (fun _ => [])) = some A108) hn h
def A87 : ACode :=
  (.seq (.reg [] [⟨some 2, (.assign (.const (.bool false))), 4, none⟩])
    (.seq (.reg [] [⟨some 3, (.move (.tmp 0)), 22, none⟩,
      ⟨some 4, (.call ⟨(.value (.func 99)), #[(.tmp 3), (.func 108)], #[22, 122]⟩), 4, none⟩,
      ⟨some 5, (.unOp .not 4 (.tmp 4)), 4, none⟩,
      ⟨some 2, (.assign (.tmp 5)), 4, none⟩])
    .ret))
theorem C87 {args : List AV} {r : AV} (hn : args.length ≤ 6) (h : vc Try.prog T [] A87 (Fin T [(.tmp 2)] r) ⟨envOf 0 args, []⟩) : CallP Try.prog 87 args r :=
  callP_of tok mixed Try.func87 (by kernel_rfl) (by kernel_rfl) (by kernel_rfl : Try.f87.ntmps = 6) (by kernel_rfl : Try.f87.body.bind (strip 6 (fun _ => [])) = some A87) hn h
def A115 : ACode :=
  (.seq (.reg [] [⟨some 4, (.assign (.const (.int .i64 0))), 3, none⟩])
    (.seq (.seq (.reg [] [⟨some 6, (.move (.tmp 0)), 22, none⟩,
      ⟨some 7, (.call ⟨(.builtin .len), #[(.tmp 6)], #[22]⟩), 3, none⟩,
      ⟨some 8, (.move (.const (.int .i64 0))), 3, none⟩])
    (.block 0 (.loop (.seq (.reg [] [⟨some 9, (.binOp .lss 3 (.tmp 8) (.tmp 7) 3), 0, none⟩])
    (.seq (.cond (.tmp 9)
    .skip
    (.exit 0))
    (.seq (.block 1 (.seq (.reg [] [⟨some 10, (.move (.tmp 8)), 3, none⟩,
      ⟨some 5, (.assign (.tmp 10)), 3, none⟩])
    (.seq (.reg [] [⟨some 11, (.move (.tmp 1)), 122, none⟩,
      ⟨some 12, (.move (.tmp 0)), 22, none⟩,
      ⟨some 13, (.move (.tmp 5)), 3, none⟩,
      ⟨some 14, (.indexAddr 22 (.tmp 12) (.tmp 13)), 0, none⟩,
      ⟨some 15, (.load 3 (.tmp 14)), 3, none⟩,
      ⟨some 16, (.call ⟨(.value (.tmp 11)), #[(.tmp 15)], #[3]⟩), 4, none⟩])
    (.cond (.tmp 16)
    (.seq (.reg [] [⟨some 17, (.move (.tmp 5)), 3, none⟩,
      ⟨some 4, (.assign (.tmp 17)), 3, none⟩])
    .ret)
    .skip))))
    (.reg [] [⟨some 18, (.binOp .add 3 (.tmp 8) (.const (.int .i64 1)) 3), 3, none⟩,
      ⟨some 8, (.move (.tmp 18)), 3, none⟩])))))))
    (.seq (.reg [] [⟨some 4, (.assign (.const (.int .i64 (-1)))), 3, none⟩])
    .ret)))
theorem C115 {args : List AV} {r : AV} (hn : args.length ≤ 19) (h : vc Try.prog T [] A115 (Fin T [(.tmp 4)] r) ⟨envOf 0 args, []⟩) : CallP Try.prog 115 args r :=
  callP_of tok mixed Try.func115 (by kernel_rfl) (by kernel_rfl) (by kernel_rfl : Try.f115.ntmps = 19) (by kernel_rfl : Try.f115.body.bind (strip 19 (fun _ => [])) = some A115) hn h
def A99 : ACode :=
  (.seq (.reg [] [⟨some 4, (.assign (.const (.bool false))), 4, none⟩])
    (.seq (.reg [] [⟨some 5, (.move (.tmp 0)), 22, none⟩,
      ⟨some 6, (.move (.tmp 1)), 122, none⟩,
      ⟨some 7, (.call ⟨(.value (.func 115)), #[(.tmp 5), (.tmp 6)], #[22, 122]⟩), 3, none⟩,
      ⟨some 8, (.binOp .geq 3 (.tmp 7) (.const (.int .i64 0)) 3), 4, none⟩,
      ⟨some 4, (.assign (.tmp 8)), 4, none⟩])
    .ret))
theorem C99 {args : List AV} {r : AV} (hn : args.length ≤ 9) (h : vc Try.prog T [] A99 (Fin T [(.tmp 4)] r) ⟨envOf 0 args, []⟩) : CallP Try.prog 99 args r :=
  callP_of tok mixed Try.func99 (by kernel_rfl) (by kernel_rfl) (by kernel_rfl : Try.f99.ntmps = 9) (by kernel_rfl : Try.f99.body.bind (strip 9 (fun _ => [])) = some A99) hn h
def A106 : ACode :=
  (.seq (.reg [] [⟨some 4, (.assign (.const (.int .i64 0))), 3, none⟩])
    (.seq (.seq (.reg [] [⟨some 6, (.move (.tmp 0)), 22, none⟩,
      ⟨some 7, (.call ⟨(.builtin .len), #[(.tmp 6)], #[22]⟩), 3, none⟩,
      ⟨some 8, (.move (.const (.int .i64 0))), 3, none⟩])
    (.block 0 (.loop (.seq (.reg [] [⟨some 9, (.binOp .lss 3 (.tmp 8) (.tmp 7) 3), 0, none⟩])
    (.seq (.cond (.tmp 9)
    .skip
    (.exit 0))
    (.seq (.block 1 (.seq (.reg [] [⟨some 10, (.move (.tmp 8)), 3, none⟩,
      ⟨some 5, (.assign (.tmp 10)), 3, none⟩])
    (.seq (.reg [] [⟨some 11, (.move (.tmp 1)), 3, none⟩,
      ⟨some 12, (.move (.tmp 0)), 22, none⟩,
      ⟨some 13, (.move (.tmp 5)), 3, none⟩,
      ⟨some 14, (.indexAddr 22 (.tmp 12) (.tmp 13)), 0, none⟩,
      ⟨some 15, (.load 3 (.tmp 14)), 3, none⟩,
      ⟨some 16, (.binOp .eql 3 (.tmp 11) (.tmp 15) 3), 4, none⟩])
    (.cond (.tmp 16)
    (.seq (.reg [] [⟨some 17, (.move (.tmp 5)), 3, none⟩,
      ⟨some 4, (.assign (.tmp 17)), 3, none⟩])
    .ret)
    .skip))))
    (.reg [] [⟨some 18, (.binOp .add 3 (.tmp 8) (.const (.int .i64 1)) 3), 3, none⟩,
      ⟨some 8, (.move (.tmp 18)), 3, none⟩])))))))
    (.seq (.reg [] [⟨some 4, (.assign (.const (.int .i64 (-1)))), 3, none⟩])
    .ret)))
theorem C106 {args : List AV} {r : AV} (hn : args.length ≤ 19) (h : vc Try.prog T [] A106 (Fin T [(.tmp 4)] r) ⟨envOf 0 args, []⟩) : CallP Try.prog 106 args r :=
  callP_of tok mixed Try.func106 (by kernel_rfl) (by kernel_rfl) (by kernel_rfl : Try.f106.ntmps = 19) (by kernel_rfl : Try.f106.body.bind (strip 19 (fun _ => [])) = some A106) hn h
def A85 : ACode :=
  (.seq (.reg [] [⟨some 4, (.assign (.const (.bool false))), 4, none⟩])
    (.seq (.reg [] [⟨some 5, (.move (.tmp 0)), 22, none⟩,
      ⟨some 6, (.move (.tmp 1)), 3, none⟩,
      ⟨some 7, (.call ⟨(.value (.func 106)), #[(.tmp 5), (.tmp 6)], #[22, 3]⟩), 3, none⟩,
      ⟨some 8, (.binOp .geq 3 (.tmp 7) (.const (.int .i64 0)) 3), 4, none⟩,
      ⟨some 4, (.assign (.tmp 8)), 4, none⟩])
    .ret))
theorem C85 {args : List AV} {r : AV} (hn : args.length ≤ 9) (h : vc Try.prog T [] A85 (Fin T [(.tmp 4)] r) ⟨envOf 0 args, []⟩) : CallP Try.prog 85 args r :=
  callP_of tok mixed Try.func85 (by kernel_rfl) (by kernel_rfl) (by kernel_rfl : Try.f85.ntmps = 9) (by kernel_rfl : Try.f85.body.bind (strip 9 (fun _ => [])) = some A85) hn h
def A89 : ACode :=
  (.seq (.reg [] [⟨some 4, (.assign (.const (.bool false))), 4, none⟩])
    (.seq (.seq (.reg [] [⟨some 6, (.move (.tmp 0)), 22, none⟩,
      ⟨some 7, (.call ⟨(.builtin .len), #[(.tmp 6)], #[22]⟩), 3, none⟩,
      ⟨some 8, (.move (.tmp 1)), 22, none⟩,
      ⟨some 9, (.call ⟨(.builtin .len), #[(.tmp 8)], #[22]⟩), 3, none⟩,
      ⟨some 10, (.binOp .neq 3 (.tmp 7) (.tmp 9) 3), 4, none⟩])
    (.cond (.tmp 10)
    (.seq (.reg [] [⟨some 4, (.assign (.const (.bool false))), 4, none⟩])
    .ret)
    .skip))
    (.seq (.seq (.reg [] [⟨some 11, (.move (.tmp 0)), 22, none⟩,
      ⟨some 12, (.call ⟨(.builtin .len), #[(.tmp 11)], #[22]⟩), 3, none⟩,
      ⟨some 13, (.move (.const (.int .i64 0))), 3, none⟩])
    (.block 0 (.loop (.seq (.reg [] [⟨some 14, (.binOp .lss 3 (.tmp 13) (.tmp 12) 3), 0, none⟩])
    (.seq (.cond (.tmp 14)
    .skip
    (.exit 0))
    (.seq (.block 1 (.seq (.reg [] [⟨some 15, (.move (.tmp 13)), 3, none⟩,
      ⟨some 5, (.assign (.tmp 15)), 3, none⟩])
    (.seq (.draw [] [⟨some 16, (.move (.tmp 0)), 22, none⟩,
      ⟨some 17, (.move (.tmp 5)), 3, none⟩,
      ⟨some 18, (.indexAddr 22 (.tmp 16) (.tmp 17)), 0, none⟩,
      ⟨some 19, (.load 3 (.tmp 18)), 3, none⟩,
      ⟨some 20, (.move (.tmp 1)), 22, none⟩,
      ⟨some 21, (.move (.tmp 5)), 3, none⟩,
      ⟨some 22, (.indexAddr 22 (.tmp 20) (.tmp 21)), 0, none⟩,
      ⟨some 23, (.load 3 (.tmp 22)), 3, none⟩,
      ⟨some 24, (.binOp .neq 3 (.tmp 19) (.tmp 23) 3), 4, none⟩] [(0, 1), (0, 4), (1, 4), (2, 4), (3, 4), (0, 5), (1, 5), (2, 5), (3, 5), (4, 5), (0, 6), (1, 6), (2, 6), (3, 6), (0, 7), (1, 7), (2, 7), (3, 7)])
    (.cond (.tmp 24)
    (.seq (.reg [] [⟨some 4, (.assign (.const (.bool false))), 4, none⟩])
    .ret)
    .skip))))
    (.reg [] [⟨some 25, (.binOp .add 3 (.tmp 13) (.const (.int .i64 1)) 3), 3, none⟩,
      ⟨some 13, (.move (.tmp 25)), 3, none⟩])))))))
    (.seq (.reg [] [⟨some 4, (.assign (.const (.bool true))), 4, none⟩])
    .ret))))
theorem C89 {args : List AV} {r : AV} (hn : args.length ≤ 26) (h : vc Try.prog T [] A89 (Fin T [(.tmp 4)] r) ⟨envOf 0 args, []⟩) : CallP Try.prog 89 args r :=
  callP_of tok mixed Try.func89 (by kernel_rfl) (by kernel_rfl) (by kernel_rfl : Try.f89.ntmps = 26) (by kernel_rfl : Try.f89.body.bind (strip 26 (fun _ => [])) = some A89) hn h
def A53 : ACode :=
  (.seq (.reg [] [⟨some 2, (.assign (.const (.slice none 0 0))), 22, none⟩,
      ⟨some 3, (.assign (.const (.int .i64 0))), 27, none⟩])
    (.seq (.seq (.reg [] [⟨some 4, (.move (.tmp 0)), 22, none⟩,
      ⟨some 5, (.call ⟨(.builtin .len), #[(.tmp 4)], #[22]⟩), 3, none⟩,
      ⟨some 6, (.binOp .gtr 3 (.tmp 5) (.const (.int .i64 8)) 3), 4, none⟩])
    (.cond (.tmp 6)
    (.seq (.reg [] [⟨some 2, (.assign (.const (.slice none 0 0))), 22, none⟩,
      ⟨some 3, (.assign (.const (.int .i64 3))), 27, none⟩])
    .ret)
    .skip))
    (.seq (.reg [] [⟨some 7, (.move (.tmp 0)), 22, none⟩,
      ⟨some 2, (.assign (.tmp 7)), 22, none⟩,
      ⟨some 3, (.assign (.const (.int .i64 0))), 27, none⟩])
    .ret)))
theorem C53 {args : List AV} {r : AV} (hn : args.length ≤ 8) (h : vc Try.prog T [] A53 (Fin T [(.tmp 2), (.tmp 3)] r) ⟨envOf 0 args, []⟩) : CallP Try.prog 53 args r :=
  callP_of tok mixed Try.func53 (by kernel_rfl) (by kernel_rfl) (by kernel_rfl : Try.f53.ntmps = 8) (by kernel_rfl : Try.f53.body.bind (strip 8 (fun _ => [])) = some A53) hn h

end Go.Proofs.Ytkhddecnllcaiaa
end

section
/- Contracts: leaves of package rule. -/
namespace Go.Proofs.Ytkhddecnllcaiaa
open Go.Abs Go
set_option maxRecDepth 20000
set_option maxHeartbeats 2000000
attribute [local irreducible] PreK CondK CallK CallG CallX LoopK

theorem within_c (n lo hi : Int) : CallP Try.prog 105 [iv n, iv lo, iv hi] (bv (decide (lo ≤ n) && decide (n ≤ hi))) := by
  refine C105 (by simp) ?_
  simp [A105]
def isSound (n : Int) : Bool := decide (0 ≤ n) && decide (n ≤ 5)
theorem isSound_c (n : Int) : CallP Try.prog 107 [iv n] (bv (isSound n)) := by
  refine C107 (by simp) ?_
  simp [A107]
  refine CallX.pure (by simpa using within_c n 0 5) (by simp) (by simp) ?_
  simp [isSound]
def isNeighbor (n : Int) : Bool := decide (n = -1) || isSound n
theorem isNeighbor_c (n : Int) : CallP Try.prog 86 [iv n] (bv (isNeighbor n)) := by
  refine C86 (by simp) ?_
  simp [A86]
  refine CallG.intro (fun _ => by simpa using isSound_c n) (by simp) (by simp) ?_
  simp [isNeighbor]
theorem notSound_c (n : Int) : CallP Try.prog 108 [iv n] (bv (!isSound n)) := by
  refine C108 (by simp) ?_
  simp [A108]
  refine CallX.pure (by simpa using isSound_c n) (by simp) (by simp) ?_
  simp
def long (r : Rule) : Int := if r.frm = -1 then 0 else 1
theorem long_c (r : Rule) : CallP Try.prog 82 [ruleV r] (iv (long r)) := by
  refine C82 (by simp) ?_
  simp [A82]
  refine CondK.intro (fun h => ?_) (fun h => ?_)
  · simp at h
    simp [long, h]
  · simp at h
    simp [long, h]
def atW (w : List Int) (i : Int) : Int := if 0 ≤ i ∧ i < w.length then el w i.toNat else -1
theorem at_c (w : List Int) (i : Int) (hw : w.length ≤ 1000) : CallP Try.prog 83 [ints w, iv i] (iv (atW w i)) := by
  refine C83 (by simp) ?_
  simp [A83]
  refine PreK.intro (by omega) fun _ => ?_
  simp
  refine CallX.pure (by simpa using within_c i 0 (w.length - 1)) (by simp) (by simp) ?_
  simp
  refine CondK.intro (fun h => ?_) (fun h => ?_)
  · simp at h
    have : ¬ (0 ≤ i ∧ i < w.length) := by omega
    simp [atW, this]
  · simp at h
    have h2 : 0 ≤ i ∧ i < w.length := by omega
    simp [h2, show i.toNat < w.length by omega]
    simp [atW, h2]
end Go.Proofs.Ytkhddecnllcaiaa
end

section
/- Contracts: the library's searches in []int. -/
namespace Go.Proofs.Ytkhddecnllcaiaa
open Go.Abs Go
set_option maxRecDepth 20000
set_option maxHeartbeats 2000000
attribute [local irreducible] PreK CondK CallK CallG CallX LoopK

def idxF (p : Int → Bool) : Nat → List Int → Int
  | _, [] => -1
  | k, x :: r => if p x then k else idxF p (k + 1) r
theorem idxF_any (p : Int → Bool) : ∀ (l : List Int) (k : Nat), decide (0 ≤ idxF p k l) = l.any p
  | [], k => by simp [idxF]
  | x :: r, k => by
    by_cases h : p x = true
    · simp [idxF, h]
    · simp [idxF, h, idxF_any p r (k + 1)]

theorem indexFunc_c (l : List Int) (hl : l.length ≤ big) (f : FuncId) (cap : List AV) (p : Int → Bool) (hp : ∀ x, CallP Try.prog f (iv x :: cap) (bv (p x))) (h1 : ∀ m, snapL m cap = cap) (h2 : AV.refsL cap = []) (h3 : ∀ m, snapOKL m cap) :
    CallP Try.prog 115 [ints l, .fn f [] cap] (iv (idxF p 0 l)) := by
  refine C115 (by simp) ?_
  generalize hR : idxF p 0 l = R
  simp [A115]
  refine LoopK.by (fun i : Nat => ⟨[(8, iv i), (7, iv l.length), (0, ints l), (1, .fn f [] cap)], []⟩) (fun i => l.length - i) (fun i => i ≤ l.length ∧ idxF p i (l.drop i) = R) 0 (by simpa using hR) (by simp [h2]) ?_
  intro i Q' ⟨hi, hc⟩ hq he hr
  simp
  refine CondK.intro (fun h => ?_) (fun h => ?_)
  · simp at h
    rw [drop_cons l i h] at hc
    simp [h]
    refine CallX.pure (by simpa [h1] using hp (el l i)) (by simp [h3]) (by simp) ?_
    simp
    refine CondK.intro (fun h4 => ?_) (fun h4 => ?_)
    · simp [idxF, h4] at hc
      simp
      apply hr
      simp [hc]
    · simp [idxF, h4] at hc
      simp
      refine PreK.intro (by simp only [big] at hl; omega) fun _ => ?_
      simp
      exact hq (i + 1) _ ⟨by omega, hc⟩ (by omega) (by simp [h2])
  · simp at h
    rw [List.drop_eq_nil_of_le (by omega)] at hc
    simp [idxF] at hc
    simp
    apply he
    simp [hc]

theorem containsFunc_c (l : List Int) (hl : l.length ≤ big) (f : FuncId) (cap : List AV) (p : Int → Bool) (hp : ∀ x, CallP Try.prog f (iv x :: cap) (bv (p x))) (h1 : ∀ m, snapL m cap = cap) (h2 : AV.refsL cap = []) (h3 : ∀ m, snapOKL m cap) :
    CallP Try.prog 99 [ints l, .fn f [] cap] (bv (l.any p)) := by
  refine C99 (by simp) ?_
  rw [← idxF_any p l 0]
  simp [A99]
  refine CallX.pure (by simpa [h1] using indexFunc_c l hl f cap p hp h1 h2 h3) (by simp [h3]) (by simp) ?_
  simp

theorem index_c (l : List Int) (n : Int) (hl : l.length ≤ big) : CallP Try.prog 106 [ints l, iv n] (iv (idxF (fun x => decide (n = x)) 0 l)) := by
  refine C106 (by simp) ?_
  generalize hR : idxF (fun x => decide (n = x)) 0 l = R
  simp [A106]
  refine LoopK.by (fun i : Nat => ⟨[(8, iv i), (7, iv l.length), (0, ints l), (1, iv n)], []⟩) (fun i => l.length - i) (fun i => i ≤ l.length ∧ idxF (fun x => decide (n = x)) i (l.drop i) = R) 0 (by simpa using hR) (by simp) ?_
  intro i Q' ⟨hi, hc⟩ hq he hr
  simp
  refine CondK.intro (fun h => ?_) (fun h => ?_)
  · simp at h
    rw [drop_cons l i h] at hc
    simp [h]
    refine CondK.intro (fun h4 => ?_) (fun h4 => ?_)
    · simp at h4
      simp [idxF, h4] at hc
      simp
      apply hr
      simp [hc]
    · simp at h4
      simp [idxF, h4] at hc
      simp
      refine PreK.intro (by simp only [big] at hl; omega) fun _ => ?_
      simp
      exact hq (i + 1) _ ⟨by omega, hc⟩ (by omega) (by simp)
  · simp at h
    rw [List.drop_eq_nil_of_le (by omega)] at hc
    simp [idxF] at hc
    simp
    apply he
    simp [hc]

theorem contains_c (l : List Int) (n : Int) (hl : l.length ≤ big) : CallP Try.prog 85 [ints l, iv n] (bv (l.any fun x => decide (n = x))) := by
  refine C85 (by simp) ?_
  rw [← idxF_any _ l 0]
  simp [A85]
  refine CallX.pure (by simpa using index_c l n hl) (by simp) (by simp) ?_
  simp

theorem areSounds_c (l : List Int) (hl : l.length ≤ big) : CallP Try.prog 87 [ints l] (bv (!l.any fun x => !isSound x)) := by
  refine C87 (by simp) ?_
  simp [A87]
  refine CallX.pure (by simpa using containsFunc_c l hl 108 [] (fun x => !isSound x) notSound_c (by simp) (by simp) (by simp)) (by simp) (by simp) ?_
  simp
end Go.Proofs.Ytkhddecnllcaiaa
end

section
/- Functions of the cut as the value layer reads them. (written by gen.py) -/
set_option maxRecDepth 20000
namespace Go.Proofs.Ytkhddecnllcaiaa
open Go.Abs Go

def A52 : ACode :=
  (.seq (.reg [] [⟨some 2, (.assign (.const (.int .i64 0))), 27, none⟩])
    (.seq (.seq (.reg [] [⟨some 3, (.move (.tmp 0)), 22, none⟩,
      ⟨some 4, (.call ⟨(.builtin .len), #[(.tmp 3)], #[22]⟩), 3, none⟩,
      ⟨some 5, (.binOp .gtr 3 (.tmp 4) (.const (.int .i64 8)) 3), 4, none⟩])
    (.cond (.tmp 5)
    (.seq (.reg [] [⟨some 2, (.assign (.const (.int .i64 3))), 27, none⟩])
    .ret)
    .skip))
    (.seq (.seq (.reg [] [⟨some 6, (.move (.tmp 0)), 22, none⟩,
      ⟨some 7, (.call ⟨(.value (.func 87)), #[(.tmp 6)], #[22]⟩), 4, none⟩,
      ⟨some 8, (.unOp .not 4 (.tmp 7)), 4, none⟩])
    (.cond (.tmp 8)
    (.seq (.reg [] [⟨some 2, (.assign (.const (.int .i64 1))), 27, none⟩])
    .ret)
    .skip))
    (.seq (.reg [] [⟨some 2, (.assign (.const (.int .i64 0))), 27, none⟩])
    .ret))))
theorem C52 {args : List AV} {r : AV} (hn : args.length ≤ 9) (h : vc Try.prog T [] A52 (Fin T [(.tmp 2)] r) ⟨envOf 0 args, []⟩) : CallP Try.prog 52 args r :=
  callP_of tok mixed Try.func52 (by kernel_rfl) (by kernel_rfl) (by kernel_rfl : Try.f52.ntmps = 9) (by kernel_rfl : Try.f52.body.bind (strip 9 (fun _ => [])) = some A52) hn h
def A88 : ACode :=
  (.seq (.reg [] [⟨some 2, (.assign (.const (.bool false))), 4, none⟩])
    (.seq (.seq (.reg [] [⟨some 5, (.move (.tmp 0)), 22, none⟩,
      ⟨some 6, (.call ⟨(.builtin .len), #[(.tmp 5)], #[22]⟩), 3, none⟩,
      ⟨some 7, (.move (.const (.int .i64 0))), 3, none⟩])
    (.block 0 (.loop (.seq (.reg [] [⟨some 8, (.binOp .lss 3 (.tmp 7) (.tmp 6) 3), 0, none⟩])
    (.seq (.cond (.tmp 8)
    .skip
    (.exit 0))
    (.seq (.block 1 (.seq (.reg [] [⟨some 9, (.move (.tmp 7)), 3, none⟩,
      ⟨some 10, (.indexAddr 22 (.tmp 5) (.tmp 7)), 0, none⟩,
      ⟨some 11, (.load 3 (.tmp 10)), 3, none⟩,
      ⟨some 3, (.assign (.tmp 9)), 3, none⟩,
      ⟨some 4, (.assign (.tmp 11)), 3, none⟩])
    (.seq (.reg [] [⟨some 12, (.move (.tmp 4)), 3, none⟩,
      ⟨some 13, (.call ⟨(.value (.func 86)), #[(.tmp 12)], #[3]⟩), 4, none⟩,
      ⟨some 14, (.unOp .not 4 (.tmp 13)), 4, none⟩,
      ⟨some 15, (.move (.tmp 14)), 4, none⟩,
      ⟨some 16, (.move (.tmp 3)), 3, some (15, false)⟩,
      ⟨some 17, (.binOp .gtr 3 (.tmp 16) (.const (.int .i64 0)) 3), 4, some (15, false)⟩,
      ⟨some 18, (.move (.tmp 17)), 4, some (15, false)⟩,
      ⟨some 19, (.move (.tmp 0)), 22, some (18, true)⟩,
      ⟨some 20, (.move (.tmp 3)), 3, some (18, true)⟩,
      ⟨some 21, (.binOp .sub 3 (.tmp 20) (.const (.int .i64 1)) 3), 3, some (18, true)⟩,
      ⟨some 22, (.indexAddr 22 (.tmp 19) (.tmp 21)), 0, some (18, true)⟩,
      ⟨some 23, (.load 3 (.tmp 22)), 3, some (18, true)⟩,
      ⟨some 24, (.move (.tmp 4)), 3, some (18, true)⟩,
      ⟨some 25, (.binOp .geq 3 (.tmp 23) (.tmp 24) 3), 4, some (18, true)⟩,
      ⟨some 26, (.pick (.tmp 18) (.tmp 25) (.const (.bool false))), 4, some (15, false)⟩,
      ⟨some 27, (.pick (.tmp 15) (.const (.bool true)) (.tmp 26)), 4, none⟩])
    (.cond (.tmp 27)
    (.seq (.reg [] [⟨some 2, (.assign (.const (.bool false))), 4, none⟩])
    .ret)
    .skip))))
    (.reg [] [⟨some 28, (.binOp .add 3 (.tmp 7) (.const (.int .i64 1)) 3), 3, none⟩,
      ⟨some 7, (.move (.tmp 28)), 3, none⟩])))))))
    (.seq (.reg [] [⟨some 2, (.assign (.const (.bool true))), 4, none⟩])
    .ret)))
theorem C88 {args : List AV} {r : AV} (hn : args.length ≤ 29) (h : vc Try.prog T [] A88 (Fin T [(.tmp 2)] r) ⟨envOf 0 args, []⟩) : CallP Try.prog 88 args r :=
  callP_of tok mixed Try.func88 (by kernel_rfl) (by kernel_rfl) (by kernel_rfl : Try.f88.ntmps = 29) (by kernel_rfl : Try.f88.body.bind (strip 29 (fun _ => [])) = some A88) hn h
def A48 : ACode :=
  (.seq (.reg [] [⟨some 1, (.box 24 (.tmp 0)), 0, none⟩,
      ⟨some 2, (.assign (.const (.int .i64 0))), 27, none⟩])
    (.seq (.block 0 (.seq (.reg [] [⟨some 4, (.fieldAddr 24 (.tmp 1) 0), 0, none⟩,
      ⟨some 5, (.load 3 (.tmp 4)), 3, none⟩,
      ⟨some 6, (.call ⟨(.value (.func 86)), #[(.tmp 5)], #[3]⟩), 4, none⟩,
      ⟨some 7, (.unOp .not 4 (.tmp 6)), 4, none⟩,
      ⟨some 3, (.assign (.tmp 7)), 4, none⟩])
    (.cond (.tmp 3)
    (.seq (.reg [] [⟨some 2, (.assign (.const (.int .i64 1))), 27, none⟩])
    .ret)
    (.seq (.reg [] [⟨some 9, (.fieldAddr 24 (.tmp 1) 1), 0, none⟩,
      ⟨some 10, (.load 22 (.tmp 9)), 22, none⟩,
      ⟨some 11, (.call ⟨(.builtin .len), #[(.tmp 10)], #[22]⟩), 3, none⟩,
      ⟨some 12, (.binOp .gtr 3 (.tmp 11) (.const (.int .i64 2)) 3), 4, none⟩,
      ⟨some 8, (.assign (.tmp 12)), 4, none⟩])
    (.cond (.tmp 8)
    (.seq (.reg [] [⟨some 2, (.assign (.const (.int .i64 3))), 27, none⟩])
    .ret)
    (.seq (.reg [] [⟨some 14, (.fieldAddr 24 (.tmp 1) 1), 0, none⟩,
      ⟨some 15, (.load 22 (.tmp 14)), 22, none⟩,
      ⟨some 16, (.call ⟨(.value (.func 87)), #[(.tmp 15)], #[22]⟩), 4, none⟩,
      ⟨some 17, (.unOp .not 4 (.tmp 16)), 4, none⟩,
      ⟨some 18, (.move (.tmp 17)), 4, none⟩,
      ⟨some 19, (.fieldAddr 24 (.tmp 1) 2), 0, some (18, false)⟩,
      ⟨some 20, (.load 22 (.tmp 19)), 22, some (18, false)⟩,
      ⟨some 21, (.call ⟨(.value (.func 88)), #[(.tmp 20)], #[22]⟩), 4, some (18, false)⟩,
      ⟨some 22, (.unOp .not 4 (.tmp 21)), 4, some (18, false)⟩,
      ⟨some 23, (.pick (.tmp 18) (.const (.bool true)) (.tmp 22)), 4, none⟩,
      ⟨some 24, (.move (.tmp 23)), 4, none⟩,
      ⟨some 25, (.fieldAddr 24 (.tmp 1) 3), 0, some (24, false)⟩,
      ⟨some 26, (.load 22 (.tmp 25)), 22, some (24, false)⟩,
      ⟨some 27, (.call ⟨(.value (.func 88)), #[(.tmp 26)], #[22]⟩), 4, some (24, false)⟩,
      ⟨some 28, (.unOp .not 4 (.tmp 27)), 4, some (24, false)⟩,
      ⟨some 29, (.pick (.tmp 24) (.const (.bool true)) (.tmp 28)), 4, none⟩,
      ⟨some 13, (.assign (.tmp 29)), 4, none⟩])
    (.cond (.tmp 13)
    (.seq (.reg [] [⟨some 2, (.assign (.const (.int .i64 1))), 27, none⟩])
    .ret)
    (.seq (.seq (.reg [] [⟨some 31, (.fieldAddr 24 (.tmp 1) 0), 0, none⟩,
      ⟨some 32, (.load 3 (.tmp 31)), 3, none⟩,
      ⟨some 33, (.binOp .eql 3 (.tmp 32) (.const (.int .i64 (-1))) 3), 4, none⟩,
      ⟨some 34, (.move (.tmp 33)), 4, none⟩,
      ⟨some 35, (.fieldAddr 24 (.tmp 1) 1), 0, some (34, true)⟩,
      ⟨some 36, (.load 22 (.tmp 35)), 22, some (34, true)⟩,
      ⟨some 37, (.call ⟨(.builtin .len), #[(.tmp 36)], #[22]⟩), 3, some (34, true)⟩,
      ⟨some 38, (.binOp .eql 3 (.tmp 37) (.const (.int .i64 0)) 3), 4, some (34, true)⟩,
      ⟨some 39, (.pick (.tmp 34) (.tmp 38) (.const (.bool false))), 4, none⟩,
      ⟨some 30, (.assign (.tmp 39)), 4, none⟩])
    (.cond (.tmp 30)
    .skip
    (.reg [] [⟨some 40, (.fieldAddr 24 (.tmp 1) 1), 0, none⟩,
      ⟨some 41, (.load 22 (.tmp 40)), 22, none⟩,
      ⟨some 42, (.fieldAddr 24 (.tmp 1) 0), 0, none⟩,
      ⟨some 43, (.load 3 (.tmp 42)), 3, none⟩,
      ⟨some 44, (.buildSlice 22 1 #[(0, (.tmp 43))]), 22, none⟩,
      ⟨some 45, (.call ⟨(.value (.func 89)), #[(.tmp 41), (.tmp 44)], #[22, 22]⟩), 4, none⟩,
      ⟨some 30, (.assign (.tmp 45)), 4, none⟩])))
    (.cond (.tmp 30)
    (.seq (.reg [] [⟨some 2, (.assign (.const (.int .i64 6))), 27, none⟩])
    .ret)
    .skip)))))))))
    (.seq (.reg [] [⟨some 2, (.assign (.const (.int .i64 0))), 27, none⟩])
    .ret)))
theorem C48 {args : List AV} {r : AV} (hn : args.length ≤ 46) (h : vc Try.prog T [] A48 (Fin T [(.tmp 2)] r) ⟨envOf 0 args, []⟩) : CallP Try.prog 48 args r :=
  callP_of tok mixed Try.func48 (by kernel_rfl) (by kernel_rfl) (by kernel_rfl : Try.f48.ntmps = 46) (by kernel_rfl : Try.f48.body.bind (strip 46 (fun _ => [])) = some A48) hn h
def A42 : ACode :=
  (.seq (.reg [] [⟨some 2, (.box 24 (.tmp 0)), 0, none⟩,
      ⟨some 4, (.assign (.const (.int .i64 0))), 27, none⟩])
    (.seq (.seq (.reg [] [⟨some 6, (.load 24 (.tmp 2)), 24, none⟩,
      ⟨some 7, (.call ⟨(.value (.func 48)), #[(.tmp 6)], #[24]⟩), 27, none⟩,
      ⟨some 5, (.assign (.tmp 7)), 27, none⟩])
    (.seq (.reg [] [⟨some 8, (.move (.tmp 5)), 27, none⟩,
      ⟨some 9, (.binOp .neq 27 (.tmp 8) (.const (.int .i64 0)) 27), 4, none⟩])
    (.cond (.tmp 9)
    (.seq (.reg [] [⟨some 10, (.move (.tmp 5)), 27, none⟩,
      ⟨some 4, (.assign (.tmp 10)), 27, none⟩])
    .ret)
    .skip)))
    (.seq (.reg [] [⟨some 11, (.move (.tmp 1)), 22, none⟩,
      ⟨some 12, (.call ⟨(.value (.func 52)), #[(.tmp 11)], #[22]⟩), 27, none⟩,
      ⟨some 4, (.assign (.tmp 12)), 27, none⟩])
    .ret)))
theorem C42 {args : List AV} {r : AV} (hn : args.length ≤ 13) (h : vc Try.prog T [] A42 (Fin T [(.tmp 4)] r) ⟨envOf 0 args, []⟩) : CallP Try.prog 42 args r :=
  callP_of tok mixed Try.func42 (by kernel_rfl) (by kernel_rfl) (by kernel_rfl : Try.f42.ntmps = 13) (by kernel_rfl : Try.f42.body.bind (strip 13 (fun _ => [])) = some A42) hn h
def A47 : ACode :=
  (.seq (.reg [] [⟨some 2, (.alloc 76), 0, none⟩])
    (.seq (.reg [] [⟨some 3, (.alloc 76), 0, none⟩])
    (.seq (.seq (.reg [] [⟨some 5, (.move (.const (.int .i64 0))), 3, none⟩])
    (.block 0 (.loop (.seq (.reg [] [⟨some 6, (.binOp .lss 3 (.tmp 5) (.const (.int .i64 7)) 3), 0, none⟩])
    (.seq (.cond (.tmp 6)
    .skip
    (.exit 0))
    (.seq (.block 1 (.seq (.reg [] [⟨some 7, (.move (.tmp 5)), 3, none⟩,
      ⟨some 4, (.assign (.tmp 7)), 3, none⟩])
    (.reg [] [⟨some 8, (.move (.tmp 4)), 3, none⟩,
      ⟨some 9, (.move (.tmp 0)), 22, none⟩,
      ⟨some 10, (.call ⟨(.builtin .len), #[(.tmp 9)], #[22]⟩), 3, none⟩,
      ⟨some 11, (.binOp .eql 3 (.tmp 10) (.const (.int .i64 0)) 3), 4, none⟩,
      ⟨some 12, (.move (.tmp 11)), 4, none⟩,
      ⟨some 13, (.move (.tmp 0)), 22, some (12, false)⟩,
      ⟨some 14, (.move (.tmp 4)), 3, some (12, false)⟩,
      ⟨some 15, (.binOp .sub 3 (.tmp 14) (.const (.int .i64 1)) 3), 3, some (12, false)⟩,
      ⟨some 16, (.call ⟨(.value (.func 85)), #[(.tmp 13), (.tmp 15)], #[22, 3]⟩), 4, some (12, false)⟩,
      ⟨some 17, (.pick (.tmp 12) (.const (.bool true)) (.tmp 16)), 4, none⟩,
      ⟨some 18, (.indexAddr 76 (.tmp 3) (.tmp 8)), 0, none⟩,
      ⟨none, (.store 4 (.tmp 18) (.tmp 17)), 0, none⟩])))
    (.reg [] [⟨some 19, (.binOp .add 3 (.tmp 5) (.const (.int .i64 1)) 3), 3, none⟩,
      ⟨some 5, (.move (.tmp 19)), 3, none⟩])))))))
    (.seq (.reg [] [⟨some 20, (.load 76 (.tmp 3)), 76, none⟩,
      ⟨none, (.store 76 (.tmp 2) (.tmp 20)), 0, none⟩])
    .ret))))
theorem C47 {args : List AV} {r : AV} (hn : args.length ≤ 21) (h : vc Try.prog T [] A47 (Fin T [(.cell 2 76)] r) ⟨envOf 0 args, []⟩) : CallP Try.prog 47 args r :=
  callP_of tok mixed Try.func47 (by kernel_rfl) (by kernel_rfl) (by kernel_rfl : Try.f47.ntmps = 21) (by kernel_rfl : Try.f47.body.bind (strip 21 (fun _ => [])) = some A47) hn h
def A84 : ACode :=
  (.seq (.reg [] [⟨some 2, (.box 76 (.tmp 0)), 0, none⟩,
      ⟨some 3, (.box 76 (.tmp 1)), 0, none⟩,
      ⟨some 4, (.alloc 76), 0, none⟩])
    (.seq (.seq (.reg [] [⟨some 6, (.move (.const (.int .i64 0))), 3, none⟩])
    (.block 0 (.loop (.seq (.reg [] [⟨some 7, (.binOp .lss 3 (.tmp 6) (.const (.int .i64 7)) 3), 0, none⟩])
    (.seq (.cond (.tmp 7)
    .skip
    (.exit 0))
    (.seq (.block 1 (.seq (.reg [] [⟨some 8, (.move (.tmp 6)), 3, none⟩,
      ⟨some 5, (.assign (.tmp 8)), 3, none⟩])
    (.reg [] [⟨some 9, (.move (.tmp 5)), 3, none⟩,
      ⟨some 10, (.move (.tmp 5)), 3, none⟩,
      ⟨some 11, (.indexAddr 76 (.tmp 2) (.tmp 10)), 0, none⟩,
      ⟨some 12, (.load 4 (.tmp 11)), 4, none⟩,
      ⟨some 13, (.move (.tmp 12)), 4, none⟩,
      ⟨some 14, (.move (.tmp 5)), 3, some (13, true)⟩,
      ⟨some 15, (.indexAddr 76 (.tmp 3) (.tmp 14)), 0, some (13, true)⟩,
      ⟨some 16, (.load 4 (.tmp 15)), 4, some (13, true)⟩,
      ⟨some 17, (.pick (.tmp 13) (.tmp 16) (.const (.bool false))), 4, none⟩,
      ⟨some 18, (.indexAddr 76 (.tmp 2) (.tmp 9)), 0, none⟩,
      ⟨none, (.store 4 (.tmp 18) (.tmp 17)), 0, none⟩])))
    (.reg [] [⟨some 19, (.binOp .add 3 (.tmp 6) (.const (.int .i64 1)) 3), 3, none⟩,
      ⟨some 6, (.move (.tmp 19)), 3, none⟩])))))))
    (.seq (.reg [] [⟨some 20, (.load 76 (.tmp 2)), 76, none⟩,
      ⟨none, (.store 76 (.tmp 4) (.tmp 20)), 0, none⟩])
    .ret)))
theorem C84 {args : List AV} {r : AV} (hn : args.length ≤ 21) (h : vc Try.prog T [] A84 (Fin T [(.cell 4 76)] r) ⟨envOf 0 args, []⟩) : CallP Try.prog 84 args r :=
  callP_of tok mixed Try.func84 (by kernel_rfl) (by kernel_rfl) (by kernel_rfl : Try.f84.ntmps = 21) (by kernel_rfl : Try.f84.body.bind (strip 21 (fun _ => [])) = some A84) hn h
def A46 : ACode :=
  (.seq (.reg [] [⟨some 2, (.box 24 (.tmp 0)), 0, none⟩,
      ⟨some 3, (.box 24 (.tmp 1)), 0, none⟩,
      ⟨some 4, (.alloc 76), 0, none⟩,
      ⟨some 5, (.alloc 76), 0, none⟩])
    (.seq (.draw [] [⟨some 6, (.fieldAddr 24 (.tmp 2) 2), 0, none⟩,
      ⟨some 7, (.load 22 (.tmp 6)), 22, none⟩,
      ⟨some 8, (.call ⟨(.value (.func 47)), #[(.tmp 7)], #[22]⟩), 76, none⟩,
      ⟨some 9, (.fieldAddr 24 (.tmp 3) 2), 0, none⟩,
      ⟨some 10, (.load 22 (.tmp 9)), 22, none⟩,
      ⟨some 11, (.call ⟨(.value (.func 47)), #[(.tmp 10)], #[22]⟩), 76, none⟩,
      ⟨some 12, (.call ⟨(.value (.func 84)), #[(.tmp 8), (.tmp 11)], #[76, 76]⟩), 76, none⟩,
      ⟨some 13, (.fieldAddr 24 (.tmp 2) 3), 0, none⟩,
      ⟨some 14, (.load 22 (.tmp 13)), 22, none⟩,
      ⟨some 15, (.call ⟨(.value (.func 47)), #[(.tmp 14)], #[22]⟩), 76, none⟩,
      ⟨some 16, (.fieldAddr 24 (.tmp 3) 3), 0, none⟩,
      ⟨some 17, (.load 22 (.tmp 16)), 22, none⟩,
      ⟨some 18, (.call ⟨(.value (.func 47)), #[(.tmp 17)], #[22]⟩), 76, none⟩,
      ⟨some 19, (.call ⟨(.value (.func 84)), #[(.tmp 15), (.tmp 18)], #[76, 76]⟩), 76, none⟩,
      ⟨none, (.store 76 (.tmp 4) (.tmp 12)), 0, none⟩,
      ⟨none, (.store 76 (.tmp 5) (.tmp 19)), 0, none⟩] [(0, 3), (1, 3), (2, 3), (0, 4), (1, 4), (2, 4), (0, 7), (1, 7), (2, 7), (3, 7), (4, 7), (5, 7), (6, 7), (0, 8), (1, 8), (2, 8), (3, 8), (4, 8), (5, 8), (6, 8), (0, 10), (1, 10), (2, 10), (3, 10), (4, 10), (5, 10), (6, 10), (7, 10), (8, 10), (9, 10), (0, 11), (1, 11), (2, 11), (3, 11), (4, 11), (5, 11), (6, 11), (7, 11), (8, 11), (9, 11)])
    .ret))
theorem C46 {args : List AV} {r : AV} (hn : args.length ≤ 20) (h : vc Try.prog T [] A46 (Fin T [(.cell 4 76), (.cell 5 76)] r) ⟨envOf 0 args, []⟩) : CallP Try.prog 46 args r :=
  callP_of tok mixed Try.func46 (by kernel_rfl) (by kernel_rfl) (by kernel_rfl : Try.f46.ntmps = 20) (by kernel_rfl : Try.f46.body.bind (strip 20 (fun _ => [])) = some A46) hn h
def A43 : ACode :=
  (.seq (.reg [] [⟨some 2, (.box 24 (.tmp 0)), 0, none⟩,
      ⟨some 4, (.assign (.const (.slice none 0 0))), 22, none⟩])
    (.seq (.draw [] [⟨some 9, (.fieldAddr 24 (.tmp 2) 2), 0, none⟩,
      ⟨some 10, (.load 22 (.tmp 9)), 22, none⟩,
      ⟨some 11, (.call ⟨(.value (.func 47)), #[(.tmp 10)], #[22]⟩), 76, none⟩,
      ⟨some 12, (.makeFunc (.func 81) #[(.tmp 11)] #[]), 122, none⟩,
      ⟨some 13, (.fieldAddr 24 (.tmp 2) 3), 0, none⟩,
      ⟨some 14, (.load 22 (.tmp 13)), 22, none⟩,
      ⟨some 15, (.call ⟨(.value (.func 47)), #[(.tmp 14)], #[22]⟩), 76, none⟩,
      ⟨some 16, (.makeFunc (.func 81) #[(.tmp 15)] #[]), 122, none⟩,
      ⟨some 5, (.assign (.tmp 12)), 122, none⟩,
      ⟨some 6, (.assign (.tmp 16)), 122, none⟩] [(0, 4), (1, 4), (2, 4), (3, 4), (0, 5), (1, 5), (2, 5), (3, 5), (3, 6), (3, 7), (7, 8)])
    (.seq (.reg [] [⟨some 7, (.assign (.const (.slice none 0 0))), 22, none⟩])
    (.seq (.seq (.reg [] [⟨some 17, (.move (.tmp 1)), 22, none⟩,
      ⟨some 18, (.call ⟨(.builtin .len), #[(.tmp 17)], #[22]⟩), 3, none⟩,
      ⟨some 19, (.binOp .add 3 (.tmp 18) (.const (.int .i64 1)) 3), 3, none⟩,
      ⟨some 20, (.load 24 (.tmp 2)), 24, none⟩,
      ⟨some 21, (.call ⟨(.value (.func 82)), #[(.tmp 20)], #[24]⟩), 3, none⟩,
      ⟨some 22, (.binOp .sub 3 (.tmp 19) (.tmp 21) 3), 3, none⟩,
      ⟨some 23, (.move (.const (.int .i64 0))), 3, none⟩])
    (.block 0 (.loop (.seq (.reg [] [⟨some 24, (.binOp .lss 3 (.tmp 23) (.tmp 22) 3), 4, none⟩])
    (.seq (.cond (.tmp 24)
    .skip
    (.exit 0))
    (.seq (.block 1 (.seq (.reg [] [⟨some 25, (.move (.tmp 23)), 3, none⟩,
      ⟨some 8, (.assign (.tmp 25)), 3, none⟩])
    (.seq (.draw [] [⟨some 26, (.fieldAddr 24 (.tmp 2) 0), 0, none⟩,
      ⟨some 27, (.load 3 (.tmp 26)), 3, none⟩,
      ⟨some 28, (.binOp .eql 3 (.tmp 27) (.const (.int .i64 (-1))) 3), 4, none⟩,
      ⟨some 29, (.move (.tmp 28)), 4, none⟩,
      ⟨some 30, (.move (.tmp 1)), 22, some (29, false)⟩,
      ⟨some 31, (.move (.tmp 8)), 3, some (29, false)⟩,
      ⟨some 32, (.indexAddr 22 (.tmp 30) (.tmp 31)), 0, some (29, false)⟩,
      ⟨some 33, (.load 3 (.tmp 32)), 3, some (29, false)⟩,
      ⟨some 34, (.fieldAddr 24 (.tmp 2) 0), 0, some (29, false)⟩,
      ⟨some 35, (.load 3 (.tmp 34)), 3, some (29, false)⟩,
      ⟨some 36, (.binOp .eql 3 (.tmp 33) (.tmp 35) 3), 4, some (29, false)⟩,
      ⟨some 37, (.pick (.tmp 29) (.const (.bool true)) (.tmp 36)), 4, none⟩,
      ⟨some 38, (.move (.tmp 37)), 4, none⟩,
      ⟨some 39, (.move (.tmp 5)), 122, some (38, true)⟩,
      ⟨some 40, (.move (.tmp 1)), 22, some (38, true)⟩,
      ⟨some 41, (.move (.tmp 8)), 3, some (38, true)⟩,
      ⟨some 42, (.binOp .sub 3 (.tmp 41) (.const (.int .i64 1)) 3), 3, some (38, true)⟩,
      ⟨some 43, (.call ⟨(.value (.func 83)), #[(.tmp 40), (.tmp 42)], #[22, 3]⟩), 3, some (38, true)⟩,
      ⟨some 44, (.call ⟨(.value (.tmp 39)), #[(.tmp 43)], #[3]⟩), 4, some (38, true)⟩,
      ⟨some 45, (.pick (.tmp 38) (.tmp 44) (.const (.bool false))), 4, none⟩,
      ⟨some 46, (.move (.tmp 45)), 4, none⟩,
      ⟨some 47, (.move (.tmp 6)), 122, some (46, true)⟩,
      ⟨some 48, (.move (.tmp 1)), 22, some (46, true)⟩,
      ⟨some 49, (.move (.tmp 8)), 3, some (46, true)⟩,
      ⟨some 50, (.load 24 (.tmp 2)), 24, some (46, true)⟩,
      ⟨some 51, (.call ⟨(.value (.func 82)), #[(.tmp 50)], #[24]⟩), 3, some (46, true)⟩,
      ⟨some 52, (.binOp .add 3 (.tmp 49) (.tmp 51) 3), 3, some (46, true)⟩,
      ⟨some 53, (.call ⟨(.value (.func 83)), #[(.tmp 48), (.tmp 52)], #[22, 3]⟩), 3, some (46, true)⟩,
      ⟨some 54, (.call ⟨(.value (.tmp 47)), #[(.tmp 53)], #[3]⟩), 4, some (46, true)⟩,
      ⟨some 55, (.pick (.tmp 46) (.tmp 54) (.const (.bool false))), 4, none⟩] [(4, 5), (4, 8), (5, 8), (6, 8), (7, 8), (4, 9), (5, 9), (6, 9), (7, 9), (13, 14), (13, 15), (14, 15), (13, 16), (14, 16), (13, 17), (21, 22), (21, 23), (22, 23), (21, 24), (22, 24), (23, 24), (21, 25), (22, 25), (23, 25), (21, 26), (22, 26), (21, 27)])
    (.cond (.tmp 55)
    (.reg [] [⟨some 56, (.move (.tmp 7)), 22, none⟩,
      ⟨some 57, (.move (.tmp 8)), 3, none⟩,
      ⟨some 58, (.buildSlice 22 1 #[(0, (.tmp 57))]), 22, none⟩,
      ⟨some 59, (.call ⟨(.builtin .append), #[(.tmp 56), (.tmp 58)], #[22, 22]⟩), 22, none⟩,
      ⟨some 7, (.assign (.tmp 59)), 22, none⟩])
    .skip))))
    (.reg [] [⟨some 60, (.binOp .add 3 (.tmp 23) (.const (.int .i64 1)) 3), 3, none⟩,
      ⟨some 23, (.move (.tmp 60)), 3, none⟩])))))))
    (.seq (.reg [] [⟨some 61, (.move (.tmp 7)), 22, none⟩,
      ⟨some 4, (.assign (.tmp 61)), 22, none⟩])
    .ret)))))
theorem C43 {args : List AV} {r : AV} (hn : args.length ≤ 62) (h : vc Try.prog T [] A43 (Fin T [(.tmp 4)] r) ⟨envOf 0 args, []⟩) : CallP Try.prog 43 args r :=
  callP_of tok mixed Try.func43 (by kernel_rfl) (by kernel_rfl) (by kernel_rfl : Try.f43.ntmps = 62) (by kernel_rfl : Try.f43.body.bind (strip 62 (fun _ => [])) = some A43) hn h
def A55 : ACode :=
  (.seq (.reg [] [⟨some 3, (.box 24 (.tmp 0)), 0, none⟩,
      ⟨some 6, (.assign (.const (.slice none 0 0))), 22, none⟩])
    (.seq (.draw [] [⟨some 7, (.move (.tmp 1)), 22, none⟩,
      ⟨some 8, (.move (.tmp 2)), 3, none⟩,
      ⟨some 9, (.slice 22 (.tmp 7) none (some (.tmp 8)) none), 22, none⟩,
      ⟨some 10, (.fieldAddr 24 (.tmp 3) 1), 0, none⟩,
      ⟨some 11, (.load 22 (.tmp 10)), 22, none⟩,
      ⟨some 12, (.move (.tmp 1)), 22, none⟩,
      ⟨some 13, (.move (.tmp 2)), 3, none⟩,
      ⟨some 14, (.load 24 (.tmp 3)), 24, none⟩,
      ⟨some 15, (.call ⟨(.value (.func 82)), #[(.tmp 14)], #[24]⟩), 3, none⟩,
      ⟨some 16, (.binOp .add 3 (.tmp 13) (.tmp 15) 3), 3, none⟩,
      ⟨some 17, (.slice 22 (.tmp 12) (some (.tmp 16)) none none), 22, none⟩,
      ⟨some 18, (.buildSlice 45 3 #[(0, (.tmp 9)), (1, (.tmp 11)), (2, (.tmp 17))]), 45, none⟩,
      ⟨some 19, (.call ⟨(.value (.func 93)), #[(.tmp 18)], #[45]⟩), 22, none⟩,
      ⟨some 6, (.assign (.tmp 19)), 22, none⟩] [(0, 1), (0, 3), (1, 3), (2, 3), (0, 4), (1, 4), (2, 4), (0, 5), (1, 5), (2, 5), (3, 5), (4, 5), (0, 6), (1, 6), (2, 6), (3, 6), (4, 6), (5, 6), (0, 7), (1, 7), (2, 7), (3, 7), (4, 7), (5, 7), (6, 7), (0, 8), (1, 8), (2, 8), (3, 8), (4, 8), (5, 8), (6, 8), (0, 9), (1, 9), (2, 9), (3, 9), (4, 9), (5, 9), (0, 10), (1, 10), (2, 10), (3, 10), (4, 10)])
    .ret))
theorem C55 {args : List AV} {r : AV} (hn : args.length ≤ 20) (h : vc Try.prog T [] A55 (Fin T [(.tmp 6)] r) ⟨envOf 0 args, []⟩) : CallP Try.prog 55 args r :=
  callP_of tok mixed Try.func55 (by kernel_rfl) (by kernel_rfl) (by kernel_rfl : Try.f55.ntmps = 20) (by kernel_rfl : Try.f55.body.bind (strip 20 (fun _ => [])) = some A55) hn h
def A7 : ACode :=
  (.seq (.reg [] [⟨some 2, (.box 24 (.tmp 0)), 0, none⟩,
      ⟨some 4, (.assign (.const (.slice none 0 0))), 22, none⟩,
      ⟨some 5, (.assign (.const (.int .i64 0))), 27, none⟩])
    (.seq (.seq (.reg [] [⟨some 7, (.load 24 (.tmp 2)), 24, none⟩,
      ⟨some 8, (.move (.tmp 1)), 22, none⟩,
      ⟨some 9, (.call ⟨(.value (.func 42)), #[(.tmp 7), (.tmp 8)], #[24, 22]⟩), 27, none⟩,
      ⟨some 6, (.assign (.tmp 9)), 27, none⟩])
    (.seq (.reg [] [⟨some 10, (.move (.tmp 6)), 27, none⟩,
      ⟨some 11, (.binOp .neq 27 (.tmp 10) (.const (.int .i64 0)) 27), 4, none⟩])
    (.cond (.tmp 11)
    (.seq (.reg [] [⟨some 12, (.move (.tmp 6)), 27, none⟩,
      ⟨some 4, (.assign (.const (.slice none 0 0))), 22, none⟩,
      ⟨some 5, (.assign (.tmp 12)), 27, none⟩])
    .ret)
    .skip)))
    (.seq (.reg [] [⟨some 13, (.load 24 (.tmp 2)), 24, none⟩,
      ⟨some 14, (.move (.tmp 1)), 22, none⟩,
      ⟨some 15, (.call ⟨(.value (.func 43)), #[(.tmp 13), (.tmp 14)], #[24, 22]⟩), 22, none⟩,
      ⟨some 4, (.assign (.tmp 15)), 22, none⟩,
      ⟨some 5, (.assign (.const (.int .i64 0))), 27, none⟩])
    .ret)))
theorem C7 {args : List AV} {r : AV} (hn : args.length ≤ 16) (h : vc Try.prog T [] A7 (Fin T [(.tmp 4), (.tmp 5)] r) ⟨envOf 0 args, []⟩) : CallP Try.prog 7 args r :=
  callP_of tok mixed Try.func7 (by kernel_rfl) (by kernel_rfl) (by kernel_rfl : Try.f7.ntmps = 16) (by kernel_rfl : Try.f7.body.bind (strip 16 (fun _ => [])) = some A7) hn h
def A10 : ACode :=
  (.seq (.reg [] [⟨some 2, (.box 24 (.tmp 0)), 0, none⟩,
      ⟨some 3, (.box 24 (.tmp 1)), 0, none⟩,
      ⟨some 4, (.assign (.const (.bool false))), 4, none⟩,
      ⟨some 5, (.assign (.const (.int .i64 0))), 27, none⟩])
    (.seq (.seq (.reg [] [⟨some 9, (.load 24 (.tmp 2)), 24, none⟩,
      ⟨some 10, (.load 24 (.tmp 3)), 24, none⟩,
      ⟨some 11, (.call ⟨(.value (.func 45)), #[(.tmp 9), (.tmp 10)], #[24, 24]⟩), 27, none⟩,
      ⟨some 6, (.assign (.tmp 11)), 27, none⟩])
    (.seq (.reg [] [⟨some 12, (.move (.tmp 6)), 27, none⟩,
      ⟨some 13, (.binOp .neq 27 (.tmp 12) (.const (.int .i64 0)) 27), 4, none⟩])
    (.cond (.tmp 13)
    (.seq (.reg [] [⟨some 14, (.move (.tmp 6)), 27, none⟩,
      ⟨some 4, (.assign (.const (.bool false))), 4, none⟩,
      ⟨some 5, (.assign (.tmp 14)), 27, none⟩])
    .ret)
    .skip)))
    (.seq (.reg [] [⟨some 16, (.load 24 (.tmp 2)), 24, none⟩,
      ⟨some 17, (.load 24 (.tmp 3)), 24, none⟩,
      ⟨some 18, (.call ⟨(.value (.func 46)), #[(.tmp 16), (.tmp 17)], #[24, 24]⟩), 77, none⟩,
      ⟨some 15, (.move (.tmp 18)), 77, none⟩,
      ⟨some 19, (.extract (.tmp 15) 0), 76, none⟩,
      ⟨some 20, (.extract (.tmp 15) 1), 76, none⟩,
      ⟨some 7, (.alloc 76), 0, none⟩,
      ⟨some 8, (.alloc 76), 0, none⟩,
      ⟨none, (.store 76 (.tmp 7) (.tmp 19)), 0, none⟩,
      ⟨none, (.store 76 (.tmp 8) (.tmp 20)), 0, none⟩])
    (.seq (.draw [] [⟨some 21, (.fieldAddr 24 (.tmp 2) 0), 0, none⟩,
      ⟨some 22, (.load 3 (.tmp 21)), 3, none⟩,
      ⟨some 23, (.fieldAddr 24 (.tmp 3) 0), 0, none⟩,
      ⟨some 24, (.load 3 (.tmp 23)), 3, none⟩,
      ⟨some 25, (.binOp .eql 3 (.tmp 22) (.tmp 24) 3), 4, none⟩,
      ⟨some 26, (.move (.tmp 25)), 4, none⟩,
      ⟨some 27, (.load 76 (.tmp 7)), 76, some (26, true)⟩,
      ⟨some 28, (.fieldAddr 24 (.tmp 2) 2), 0, some (26, true)⟩,
      ⟨some 29, (.load 22 (.tmp 28)), 22, some (26, true)⟩,
      ⟨some 30, (.call ⟨(.value (.func 47)), #[(.tmp 29)], #[22]⟩), 76, some (26, true)⟩,
      ⟨some 31, (.binOp .eql 76 (.tmp 27) (.tmp 30) 76), 4, some (26, true)⟩,
      ⟨some 32, (.pick (.tmp 26) (.tmp 31) (.const (.bool false))), 4, none⟩,
      ⟨some 33, (.move (.tmp 32)), 4, none⟩,
      ⟨some 34, (.load 76 (.tmp 8)), 76, some (33, true)⟩,
      ⟨some 35, (.fieldAddr 24 (.tmp 2) 3), 0, some (33, true)⟩,
      ⟨some 36, (.load 22 (.tmp 35)), 22, some (33, true)⟩,
      ⟨some 37, (.call ⟨(.value (.func 47)), #[(.tmp 36)], #[22]⟩), 76, some (33, true)⟩,
      ⟨some 38, (.binOp .eql 76 (.tmp 34) (.tmp 37) 76), 4, some (33, true)⟩,
      ⟨some 39, (.pick (.tmp 33) (.tmp 38) (.const (.bool false))), 4, none⟩,
      ⟨some 4, (.assign (.tmp 39)), 4, none⟩,
      ⟨some 5, (.assign (.const (.int .i64 0))), 27, none⟩] [(0, 2), (1, 2), (0, 3), (1, 3), (6, 7), (6, 8), (6, 9), (13, 14), (13, 15), (13, 16)])
    .ret))))
theorem C10 {args : List AV} {r : AV} (hn : args.length ≤ 40) (h : vc Try.prog T [] A10 (Fin T [(.tmp 4), (.tmp 5)] r) ⟨envOf 0 args, []⟩) : CallP Try.prog 10 args r :=
  callP_of tok mixed Try.func10 (by kernel_rfl) (by kernel_rfl) (by kernel_rfl : Try.f10.ntmps = 40) (by kernel_rfl : Try.f10.body.bind (strip 40 (fun _ => [])) = some A10) hn h
def A45 : ACode :=
  (.seq (.reg [] [⟨some 2, (.box 24 (.tmp 0)), 0, none⟩,
      ⟨some 3, (.box 24 (.tmp 1)), 0, none⟩,
      ⟨some 4, (.assign (.const (.int .i64 0))), 27, none⟩])
    (.seq (.seq (.reg [] [⟨some 6, (.load 24 (.tmp 2)), 24, none⟩,
      ⟨some 7, (.call ⟨(.value (.func 48)), #[(.tmp 6)], #[24]⟩), 27, none⟩,
      ⟨some 5, (.assign (.tmp 7)), 27, none⟩])
    (.seq (.reg [] [⟨some 8, (.move (.tmp 5)), 27, none⟩,
      ⟨some 9, (.binOp .neq 27 (.tmp 8) (.const (.int .i64 0)) 27), 4, none⟩])
    (.cond (.tmp 9)
    (.seq (.reg [] [⟨some 10, (.move (.tmp 5)), 27, none⟩,
      ⟨some 4, (.assign (.tmp 10)), 27, none⟩])
    .ret)
    .skip)))
    (.seq (.reg [] [⟨some 11, (.load 24 (.tmp 3)), 24, none⟩,
      ⟨some 12, (.call ⟨(.value (.func 48)), #[(.tmp 11)], #[24]⟩), 27, none⟩,
      ⟨some 4, (.assign (.tmp 12)), 27, none⟩])
    .ret)))
theorem C45 {args : List AV} {r : AV} (hn : args.length ≤ 13) (h : vc Try.prog T [] A45 (Fin T [(.tmp 4)] r) ⟨envOf 0 args, []⟩) : CallP Try.prog 45 args r :=
  callP_of tok mixed Try.func45 (by kernel_rfl) (by kernel_rfl) (by kernel_rfl : Try.f45.ntmps = 13) (by kernel_rfl : Try.f45.body.bind (strip 13 (fun _ => [])) = some A45) hn h

end Go.Proofs.Ytkhddecnllcaiaa
end

section
/- Contracts: the checks of package rule. -/
namespace Go.Proofs.Ytkhddecnllcaiaa
open Go.Abs Go
set_option maxRecDepth 20000
set_option maxHeartbeats 2000000
attribute [local irreducible] PreK CondK CallK CallG CallX LoopK

theorem equal_c (a b : List Int) (ha : a.length ≤ big) : CallP Try.prog 89 [ints a, ints b] (bv (decide (a = b))) := by
  refine C89 (by simp) ?_
  generalize hR : decide (a = b) = R
  simp [A89]
  refine CondK.intro (fun h => ?_) (fun h => ?_)
  · simp at h
    have : a ≠ b := fun e => h (by rw [e])
    simp [this] at hR
    simp [hR]
  · simp at h
    simp
    refine LoopK.by (fun i : Nat => ⟨[(13, iv i), (12, iv a.length), (0, ints a), (1, ints b)], []⟩) (fun i => a.length - i) (fun i => i ≤ a.length ∧ decide (a.drop i = b.drop i) = R) 0 (by simpa using hR) (by simp) ?_
    intro i Q' ⟨hi, hc⟩ hq he hr
    simp
    refine CondK.intro (fun h2 => ?_) (fun h2 => ?_)
    · simp at h2
      rw [drop_cons a i h2, drop_cons b i (by omega)] at hc
      simp [h2, show i < b.length by omega]
      refine CondK.intro (fun h3 => ?_) (fun h3 => ?_)
      · simp at h3
        simp [h3] at hc
        simp
        apply hr
        simp [hc]
      · simp at h3
        simp [h3] at hc
        simp
        refine PreK.intro (by simp only [big] at ha; omega) fun _ => ?_
        simp
        exact hq (i + 1) _ ⟨by omega, by simpa using hc⟩ (by omega) (by simp)
    · simp at h2
      rw [List.drop_eq_nil_of_le (by omega), List.drop_eq_nil_of_le (by omega)] at hc
      simp at hc
      simp
      apply he
      simp [hc]

def wordErr (w : List Int) : Int := if 8 < w.length then 3 else if w.any (fun x => !isSound x) then 1 else 0
theorem validateWord_c (w : List Int) (hw : w.length ≤ big) : CallP Try.prog 52 [ints w] (iv (wordErr w)) := by
  refine C52 (by simp) ?_
  generalize hR : wordErr w = R
  unfold wordErr at hR
  simp [A52]
  refine CondK.intro (fun h => ?_) (fun h => ?_)
  · simp at h
    rw [if_pos (by omega)] at hR
    simp [hR]
  · simp at h
    rw [if_neg (by omega)] at hR
    simp
    refine CallX.pure (by simpa using areSounds_c w hw) (by simp) (by simp) ?_
    simp
    refine CondK.intro (fun h2 => ?_) (fun h2 => ?_)
    · have h3 : w.any (fun x => !isSound x) = true := by simpa using h2
      rw [if_pos h3] at hR
      simp [hR]
    · have h3 : ¬ w.any (fun x => !isSound x) = true := by simpa using h2
      rw [if_neg h3] at hR
      simp [hR]

def setF : Option Int → List Int → Bool
  | _, [] => true
  | p, x :: r => isNeighbor x && (match p with | some y => decide (y < x) | none => true) && setF (some x) r
def lessO (p : Option Int) (x : Int) : Bool := match p with | some y => decide (y < x) | none => true
theorem setF_cons (p : Option Int) (x : Int) (r : List Int) : setF p (x :: r) = (isNeighbor x && lessO p x && setF (some x) r) := by cases p <;> rfl
def prevOf (l : List Int) (i : Nat) : Option Int := if i = 0 then none else some (el l (i - 1))
theorem isSet_c (l : List Int) (hl : l.length ≤ big) : CallP Try.prog 88 [ints l] (bv (setF none l)) := by
  refine C88 (by simp) ?_
  generalize hR : setF none l = R
  simp [A88]
  refine LoopK.by (fun i : Nat => ⟨[(7, iv i), (6, iv l.length), (5, ints l), (0, ints l)], []⟩) (fun i => l.length - i) (fun i => i ≤ l.length ∧ setF (prevOf l i) (l.drop i) = R) 0 (by simpa [prevOf] using hR) (by simp) ?_
  intro i Q' ⟨hi, hc⟩ hq he hr
  simp
  refine CondK.intro (fun h => ?_) (fun h => ?_)
  · simp at h
    rw [drop_cons l i h, setF_cons] at hc
    simp [h]
    refine CallX.pure (by simpa using isNeighbor_c (el l i)) (by simp) (by simp) ?_
    simp
    have e1 : ((i : Int) - 1).toNat = i - 1 := by omega
    have h1 : i - 1 < l.length := by omega
    refine PreK.intro (fun a b => ⟨by simp only [big] at hl; omega, a, b⟩) fun _ => ?_
    simp [e1, h1]
    refine PreK.intro (fun a b => ⟨by omega, a, b⟩) fun _ => ?_
    simp [e1, h1]
    have hprev : lessO (prevOf l i) (el l i) = (!(decide (0 < i) && decide (el l i ≤ el l (i - 1)))) := by
      unfold prevOf
      by_cases h0 : i = 0
      · simp [h0, lessO]
      · simp [h0, lessO, show 0 < i by omega]
        by_cases h6 : el l (i - 1) < el l i
        · simp [h6]
        · simp [h6]; omega
    rw [hprev] at hc
    refine PreK.intro (fun a => ⟨fun b => ⟨a, b⟩, a⟩) fun _ => ?_
    simp
    refine CondK.intro (fun h4 => ?_) (fun h4 => ?_)
    · have : (isNeighbor (el l i) && !(decide (0 < i) && decide (el l i ≤ el l (i - 1)))) = false := by
        revert h4; cases isNeighbor (el l i) <;> cases decide (0 < i) <;> cases decide (el l i ≤ el l (i - 1)) <;> simp
      rw [this] at hc
      simp at hc
      simp
      apply hr
      simp [hc]
    · have : (isNeighbor (el l i) && !(decide (0 < i) && decide (el l i ≤ el l (i - 1)))) = true := by
        revert h4; cases isNeighbor (el l i) <;> cases decide (0 < i) <;> cases decide (el l i ≤ el l (i - 1)) <;> simp
      rw [this] at hc
      simp at hc
      simp
      refine PreK.intro (by simp only [big] at hl; omega) fun _ => ?_
      simp
      exact hq (i + 1) _ ⟨by omega, by simpa [prevOf] using hc⟩ (by omega) (by simp)
  · simp at h
    rw [List.drop_eq_nil_of_le (by omega)] at hc
    simp [setF] at hc
    simp
    apply he
    simp [hc]
end Go.Proofs.Ytkhddecnllcaiaa
end

section
/- Contracts: rule.Validate. -/
namespace Go.Proofs.Ytkhddecnllcaiaa
open Go.Abs Go
set_option maxRecDepth 20000
set_option maxHeartbeats 2000000
attribute [local irreducible] PreK CondK CallK CallG CallX LoopK

def ruleErr (r : Rule) : Int :=
  if !isNeighbor r.frm then 1 else if 2 < r.to.length then 3 else if r.to.any (fun x => !isSound x) || !setF none r.left || !setF none r.right then 1
  else if (decide (r.frm = -1) && decide (r.to.length = 0)) || decide (r.to = [r.frm]) then 6 else 0
theorem validate_c (r : Rule) (h1 : r.to.length ≤ big) (h2 : r.left.length ≤ big) (h3 : r.right.length ≤ big) : CallP Try.prog 48 [ruleV r] (iv (ruleErr r)) := by
  refine C48 (by simp) ?_
  generalize hR : ruleErr r = R
  unfold ruleErr at hR
  simp [A48]
  refine CallX.pure (by simpa using isNeighbor_c r.frm) (by simp) (by simp) ?_
  simp
  refine CondK.intro (fun h => ?_) (fun h => ?_)
  · simp at h
    simp [h] at hR
    simp [hR]
  · simp at h
    simp only [h, Bool.not_true, Bool.false_eq_true, if_false] at hR
    simp
    refine CondK.intro (fun h4 => ?_) (fun h4 => ?_)
    · simp at h4
      rw [if_pos (by omega)] at hR
      simp [hR]
    · simp at h4
      rw [if_neg (by omega)] at hR
      simp
      refine CallX.pure (by simpa using areSounds_c r.to h1) (by simp) (by simp) ?_
      simp
      refine CallG.intro (fun _ => by simpa using isSet_c r.left h2) (by simp) (by simp) ?_
      simp
      refine CallG.intro (fun _ => by simpa using isSet_c r.right h3) (by simp) (by simp) ?_
      simp
      refine CondK.intro (fun h5 => ?_) (fun h5 => ?_)
      · rw [if_pos h5] at hR
        simp [hR]
      · rw [if_neg (by rw [h5]; simp)] at hR
        simp
        refine CondK.intro (fun h6 => ?_) (fun h6 => ?_)
        · simp at h6
          simp [h6] at hR
          simp [h6, hR]
          refine CondK.intro (fun _ => ?_) (fun h => by simp at h)
          simp [hR]
        · have h7 : (decide (r.frm = -1) && decide (r.to.length = 0)) = false := by simpa using h6
          rw [h7, Bool.false_or] at hR
          simp
          refine CallX.pure (by simpa using equal_c r.to [r.frm] h1) (by simp) (by simp) ?_
          simp
          refine CondK.intro (fun h8 => ?_) (fun h8 => ?_)
          · simp at h8
            simp [h8] at hR
            simp [hR]
          · simp at h8
            simp [h8] at hR
            simp [hR]
end Go.Proofs.Ytkhddecnllcaiaa
end

section
/- Contracts: sides and places of rules. -/
namespace Go.Proofs.Ytkhddecnllcaiaa
open Go.Abs Go
set_option maxRecDepth 20000
set_option maxHeartbeats 2000000
attribute [local irreducible] PreK CondK CallK CallG CallX LoopK

/-- Which neighbors may be by a set: 7 answers. -/
def mayS (set : List Int) (n : Int) : Bool := decide (set = []) || set.any fun x => decide (n = x)
def sideL (set : List Int) : List Bool := [mayS set (-1), mayS set 0, mayS set 1, mayS set 2, mayS set 3, mayS set 4, mayS set 5]
@[simp] def sideV (s : List Bool) : AV := .agg (s.map bv)
theorem of_c (set : List Int) (hs : set.length ≤ big) : CallP Try.prog 47 [ints set] (sideV (sideL set)) := by
  refine C47 (by simp) ?_
  simp [A47]
  refine LoopK.by (fun i : Nat => ⟨[(5, iv i), (0, ints set), (3, .pt 3 1 0 0), (2, .pt 2 1 0 0)], [(3, some ⟨7, [.agg (((sideL set).take i ++ List.replicate (7 - i) false).map bv)], 1, true⟩), (2, some ⟨7, [.agg ((List.replicate 7 false).map bv)], 1, true⟩)]⟩) (fun i => 7 - i) (fun i => i ≤ 7) 0 (by simp) (by simp [List.replicate, sideL]) ?_
  intro i Q' hi hq he hr
  have hcall : ∀ n : Int, CallP Try.prog 85 [ints set, iv n] (bv (set.any fun x => decide (n = x))) := fun n => contains_c set n hs
  have hm : ∀ n, (bif decide (set = []) then true else set.any fun x => decide (n = x)) = mayS set n := fun n => by
    unfold mayS; cases decide (set = []) <;> rfl
  by_cases h7 : i = 7
  · subst h7
    simp [sideL, List.replicate]
    refine CondK.intro (fun h => by simp at h) (fun _ => ?_)
    simp
    apply he
    simp [sideL]
  · have hcase : i = 0 ∨ i = 1 ∨ i = 2 ∨ i = 3 ∨ i = 4 ∨ i = 5 ∨ i = 6 := by omega
    rcases hcase with rfl | rfl | rfl | rfl | rfl | rfl | rfl
    · simp [sideL, List.replicate]
      refine CondK.intro (fun _ => ?_) (fun h => by simp at h)
      simp
      refine CallG.intro (fun _ => by simpa using hcall (-1)) (by simp) (by simp) ?_
      simp
      exact hq 1 _ (by omega) (by omega) (by simp [sideL, mayS, List.replicate])
    · simp [sideL, List.replicate]
      refine CondK.intro (fun _ => ?_) (fun h => by simp at h)
      simp
      refine CallG.intro (fun _ => by simpa using hcall (0)) (by simp) (by simp) ?_
      simp
      exact hq 2 _ (by omega) (by omega) (by simp [sideL, mayS, List.replicate])
    · simp [sideL, List.replicate]
      refine CondK.intro (fun _ => ?_) (fun h => by simp at h)
      simp
      refine CallG.intro (fun _ => by simpa using hcall (1)) (by simp) (by simp) ?_
      simp
      exact hq 3 _ (by omega) (by omega) (by simp [sideL, mayS, List.replicate])
    · simp [sideL, List.replicate]
      refine CondK.intro (fun _ => ?_) (fun h => by simp at h)
      simp
      refine CallG.intro (fun _ => by simpa using hcall (2)) (by simp) (by simp) ?_
      simp
      exact hq 4 _ (by omega) (by omega) (by simp [sideL, mayS, List.replicate])
    · simp [sideL, List.replicate]
      refine CondK.intro (fun _ => ?_) (fun h => by simp at h)
      simp
      refine CallG.intro (fun _ => by simpa using hcall (3)) (by simp) (by simp) ?_
      simp
      exact hq 5 _ (by omega) (by omega) (by simp [sideL, mayS, List.replicate])
    · simp [sideL, List.replicate]
      refine CondK.intro (fun _ => ?_) (fun h => by simp at h)
      simp
      refine CallG.intro (fun _ => by simpa using hcall (4)) (by simp) (by simp) ?_
      simp
      exact hq 6 _ (by omega) (by omega) (by simp [sideL, mayS, List.replicate])
    · simp [sideL, List.replicate]
      refine CondK.intro (fun _ => ?_) (fun h => by simp at h)
      simp
      refine CallG.intro (fun _ => by simpa using hcall (5)) (by simp) (by simp) ?_
      simp
      exact hq 7 _ (by omega) (by omega) (by simp [sideL, mayS, List.replicate])
end Go.Proofs.Ytkhddecnllcaiaa
end

section
/- Contracts: sides and places of rules, part 2. -/
namespace Go.Proofs.Ytkhddecnllcaiaa
open Go.Abs Go
set_option maxRecDepth 20000
set_option maxHeartbeats 2000000
attribute [local irreducible] PreK CondK CallK CallG CallX LoopK

theorem and_c (a0 a1 a2 a3 a4 a5 a6 b0 b1 b2 b3 b4 b5 b6 : Bool) : CallP Try.prog 84 [sideV [a0, a1, a2, a3, a4, a5, a6], sideV [b0, b1, b2, b3, b4, b5, b6]] (sideV [(a0 && b0), (a1 && b1), (a2 && b2), (a3 && b3), (a4 && b4), (a5 && b5), (a6 && b6)]) := by
  refine C84 (by simp) ?_
  simp [A84]
  refine LoopK.by (fun i : Nat => ⟨[(6, iv i), (2, .pt 2 1 0 0), (3, .pt 3 1 0 0), (4, .pt 4 1 0 0)], [(2, some ⟨7, [.agg (([(a0 && b0), (a1 && b1), (a2 && b2), (a3 && b3), (a4 && b4), (a5 && b5), (a6 && b6)].take i ++ [a0, a1, a2, a3, a4, a5, a6].drop i).map bv)], 1, true⟩), (3, some ⟨7, [.agg ([b0, b1, b2, b3, b4, b5, b6].map bv)], 1, true⟩), (4, some ⟨7, [.agg ((List.replicate 7 false).map bv)], 1, true⟩)]⟩) (fun i => 7 - i) (fun i => i ≤ 7) 0 (by simp) (by simp [List.replicate]) ?_
  intro i Q' hi hq he hr
  by_cases h7 : i = 7
  · subst h7
    simp [List.replicate]
    refine CondK.intro (fun h => by simp at h) (fun _ => ?_)
    simp
    apply he
    simp
  · have hcase : i = 0 ∨ i = 1 ∨ i = 2 ∨ i = 3 ∨ i = 4 ∨ i = 5 ∨ i = 6 := by omega
    rcases hcase with rfl | rfl | rfl | rfl | rfl | rfl | rfl
    · simp [List.replicate]
      refine CondK.intro (fun _ => ?_) (fun h => by simp at h)
      simp
      exact hq 1 _ (by omega) (by omega) (by simp [List.replicate])
    · simp [List.replicate]
      refine CondK.intro (fun _ => ?_) (fun h => by simp at h)
      simp
      exact hq 2 _ (by omega) (by omega) (by simp [List.replicate])
    · simp [List.replicate]
      refine CondK.intro (fun _ => ?_) (fun h => by simp at h)
      simp
      exact hq 3 _ (by omega) (by omega) (by simp [List.replicate])
    · simp [List.replicate]
      refine CondK.intro (fun _ => ?_) (fun h => by simp at h)
      simp
      exact hq 4 _ (by omega) (by omega) (by simp [List.replicate])
    · simp [List.replicate]
      refine CondK.intro (fun _ => ?_) (fun h => by simp at h)
      simp
      exact hq 5 _ (by omega) (by omega) (by simp [List.replicate])
    · simp [List.replicate]
      refine CondK.intro (fun _ => ?_) (fun h => by simp at h)
      simp
      exact hq 6 _ (by omega) (by omega) (by simp [List.replicate])
    · simp [List.replicate]
      refine CondK.intro (fun _ => ?_) (fun h => by simp at h)
      simp
      exact hq 7 _ (by omega) (by omega) (by simp [List.replicate])
end Go.Proofs.Ytkhddecnllcaiaa
end

section
/- Functions of the cut as the value layer reads them. (written by gen.py) -/
set_option maxRecDepth 20000
namespace Go.Proofs.Ytkhddecnllcaiaa
open Go.Abs Go

def A81 : ACode :=
  (.seq (.reg [] [⟨some 2, (.box 76 (.tmp 0)), 0, none⟩,
      ⟨some 4, (.assign (.const (.bool false))), 4, none⟩])
    (.seq (.reg [] [⟨some 5, (.move (.tmp 1)), 3, none⟩,
      ⟨some 6, (.binOp .add 3 (.tmp 5) (.const (.int .i64 1)) 3), 3, none⟩,
      ⟨some 7, (.indexAddr 76 (.tmp 2) (.tmp 6)), 0, none⟩,
      ⟨some 8, (.load 4 (.tmp 7)), 4, none⟩,
      ⟨some 4, (.assign (.tmp 8)), 4, none⟩])
    .ret))
theorem C81 {args : List AV} {r : AV} (hn : args.length ≤ 9) (h : vc Try.prog T [] A81 (Fin T [(.tmp 4)] r) ⟨envOf 0 args, []⟩) : CallP Try.prog 81 args r :=
  callP_of tok mixed Try.func81 (by kernel_rfl) (by kernel_rfl) (by kernel_rfl : Try.f81.ntmps = 9) (by kernel_rfl : Try.f81.body.bind (strip 9 (fun _ => [])) = some A81) hn h

end Go.Proofs.Ytkhddecnllcaiaa
end

section
/- Contracts: sides and places of rules, part 3. -/
namespace Go.Proofs.Ytkhddecnllcaiaa
open Go.Abs Go
set_option maxRecDepth 20000
set_option maxHeartbeats 2000000
attribute [local irreducible] PreK CondK CallK CallG CallX LoopK

theorem may_c (s : List Bool) (hs : s.length = 7) (n : Int) (h0 : -1 ≤ n) (h1 : n ≤ 5) : CallP Try.prog 81 [sideV s, iv n] (bv (s.getD (n + 1).toNat false)) := by
  refine C81 (by simp) ?_
  simp [A81]
  refine PreK.intro hs fun _ => ?_
  simp
  refine PreK.intro (by omega) fun _ => ?_
  simp
  refine PreK.intro (by omega) fun _ => ?_
  simp [hs]
  refine PreK.intro (by omega) fun _ => ?_
  have hlt : (n + 1).toNat < s.length := by omega
  simp [hlt]
end Go.Proofs.Ytkhddecnllcaiaa
end

section
/- Contracts: applying rules. -/
namespace Go.Proofs.Ytkhddecnllcaiaa
open Go.Abs Go
set_option maxRecDepth 20000
set_option maxHeartbeats 2000000
attribute [local irreducible] PreK CondK CallK CallG CallX LoopK

def putW (r : Rule) (w : List Int) (i : Nat) : List Int := w.take i ++ r.to ++ w.drop (i + (long r).toNat)
theorem put_c (r : Rule) (w : List Int) (i : Nat) (hi : i + (long r).toNat ≤ w.length) (hw : w.length ≤ 400) (ht : r.to.length ≤ 400) : CallP Try.prog 55 [ruleV r, ints w, iv i] (ints (putW r w i)) := by
  refine C55 (by simp) ?_
  have hl : long r = 0 ∨ long r = 1 := by unfold long; split <;> simp
  simp [A55, show i ≤ w.length by omega]
  refine CallK.intro (by simpa using long_c r) (by simp) (by simp) ?_
  simp
  have e1 : ((i : Int) + long r).toNat = i + (long r).toNat := by omega
  refine PreK.intro (by omega) fun _ => ?_
  simp
  refine PreK.intro (by omega) fun _ => ?_
  simp [e1]
  refine CallK.intro (by simpa [List.map_take, List.map_drop] using (concat_o [w.take i, r.to, w.drop (i + (long r).toNat)] (by simp) (by simp; omega)).toP) (by simp) (by simp) ?_
  simp [putW]

def shortErr (w : List Int) : Int := if 8 < w.length then 3 else 0
theorem short_c (w : List Int) : CallP Try.prog 53 [ints w] (.tup [ints (if 8 < w.length then [] else w), iv (shortErr w)]) := by
  refine C53 (by simp) ?_
  simp [A53]
  refine CondK.intro (fun h => ?_) (fun h => ?_)
  · simp at h
    have : 8 < w.length := by omega
    simp [shortErr, this]
  · simp at h
    have : ¬ 8 < w.length := by omega
    simp [shortErr, this]
end Go.Proofs.Ytkhddecnllcaiaa
end

section
/- Contracts: a rule and a word. -/
namespace Go.Proofs.Ytkhddecnllcaiaa
open Go.Abs Go
set_option maxRecDepth 20000
set_option maxHeartbeats 2000000
attribute [local irreducible] PreK CondK CallK CallG CallX LoopK

def wordedErr (r : Rule) (w : List Int) : Int := if ruleErr r ≠ 0 then ruleErr r else wordErr w
def Rule.small (r : Rule) : Prop := r.to.length ≤ 1000 ∧ r.left.length ≤ 1000 ∧ r.right.length ≤ 1000
theorem validate_s {r : Rule} (h : r.small) : CallP Try.prog 48 [ruleV r] (iv (ruleErr r)) :=
  validate_c r (by have := h.1; simp only [big]; omega) (by have := h.2.1; simp only [big]; omega) (by have := h.2.2; simp only [big]; omega)
theorem worded_c (r : Rule) (w : List Int) (h : r.small) (hw : w.length ≤ 1000) : CallP Try.prog 42 [ruleV r, ints w] (iv (wordedErr r w)) := by
  refine C42 (by simp) ?_
  generalize hR : wordedErr r w = R
  unfold wordedErr at hR
  simp [A42]
  refine CallX.pure (by simpa using validate_s h) (by simp) (by simp) ?_
  simp
  refine CondK.intro (fun h1 => ?_) (fun h1 => ?_)
  · simp at h1
    simp [h1] at hR
    simp [hR]
  · simp at h1
    simp [h1] at hR
    simp
    refine CallX.pure (by simpa using validateWord_c w (by simp only [big]; omega)) (by simp) (by simp) ?_
    simp [hR]
end Go.Proofs.Ytkhddecnllcaiaa
end

section
/- Contracts: the places of a rule. -/
namespace Go.Proofs.Ytkhddecnllcaiaa
open Go.Abs Go

theorem sideL_get (set : List Int) (n : Int) (h0 : -1 ≤ n) (h1 : n ≤ 5) : (sideL set).getD (n + 1).toNat false = mayS set n := by
  have : n = -1 ∨ n = 0 ∨ n = 1 ∨ n = 2 ∨ n = 3 ∨ n = 4 ∨ n = 5 := by omega
  rcases this with rfl | rfl | rfl | rfl | rfl | rfl | rfl <;> rfl
theorem mayS_c (set : List Int) (n : Int) (h0 : -1 ≤ n) (h1 : n ≤ 5) : CallP Try.prog 81 [sideV (sideL set), iv n] (bv (mayS set n)) := by
  rw [← sideL_get set n h0 h1]
  exact may_c (sideL set) rfl n h0 h1
/-- Whether a rule may be applied at a place. -/
def isAt (r : Rule) (w : List Int) (i : Nat) : Bool :=
  (decide (r.frm = -1) || decide (el w i = r.frm)) && mayS r.left (atW w ((i : Int) - 1)) && mayS r.right (atW w ((i : Int) + long r))
theorem atW_range (w : List Int) (hw : w.all isSound = true) (i : Int) : -1 ≤ atW w i ∧ atW w i ≤ 5 := by
  unfold atW
  split
  · rename_i h
    have hlt : i.toNat < w.length := by omega
    have := List.all_eq_true.1 hw (el w i.toNat) (by rw [el_eq w _ hlt]; exact List.getElem_mem hlt)
    simp [isSound] at this
    omega
  · omega
end Go.Proofs.Ytkhddecnllcaiaa
end

section
/- Contracts: the places of a rule. -/
set_option maxRecDepth 20000
namespace Go.Proofs.Ytkhddecnllcaiaa
open Go.Abs Go
set_option maxRecDepth 20000
set_option maxHeartbeats 2000000
attribute [local irreducible] PreK CondK CallK CallG CallX LoopK

def placesF (r : Rule) (w : List Int) : Nat → Nat → List Int
  | _, 0 => []
  | i, n + 1 => if isAt r w i then (i : Int) :: placesF r w (i + 1) n else placesF r w (i + 1) n
set_option maxHeartbeats 1000000 in
theorem places_c (r : Rule) (w : List Int) (h : r.small) (hw : w.length ≤ 1000) (hs : w.all isSound = true) :
    CallP Try.prog 43 [ruleV r, ints w] (ints (placesF r w 0 (w.length + 1 - (long r).toNat))) := by
  refine C43 (by simp) ?_
  generalize hR : placesF r w 0 (w.length + 1 - (long r).toNat) = R
  have hl : long r = 0 ∨ long r = 1 := by unfold long; split <;> simp
  have hb : ∀ {l : List Int}, l.length ≤ 1000 → l.length ≤ big := fun h => by simp only [big]; omega
  simp [A43]
  refine CallK.intro (by simpa using of_c r.left (hb h.2.1)) (by simp) (by simp) ?_
  simp
  refine CallK.intro (by simpa using of_c r.right (hb h.2.2)) (by simp) (by simp) ?_
  simp
  refine PreK.intro (by omega) fun _ => ?_
  simp
  refine CallX.pure (by simpa using long_c r) (by simp) (by simp) ?_
  simp
  refine PreK.intro (by omega) fun _ => ?_
  simp
  refine LoopK.by (ι := Nat × Nat × List Int) (fun i => ⟨[(23, iv i.1), (22, iv (w.length + 1 - long r)), (1, ints w), (5, .fn 81 [sideV (sideL r.left)] []), (6, .fn 81 [sideV (sideL r.right)] []), (2, .pt 2 1 0 0), (7, .sl 7 i.2.1 0 i.2.2.length)],
      [(7, some ⟨1, i.2.2.map iv, i.2.1, false⟩), (2, some ⟨4, [ruleV r], 1, true⟩)]⟩) (fun i => w.length + 1 - (long r).toNat - i.1)
    (fun i => i.1 ≤ w.length + 1 - (long r).toNat ∧ i.2.2.length ≤ i.1 ∧ i.2.2 ++ placesF r w i.1 (w.length + 1 - (long r).toNat - i.1) = R) (0, 1, []) (by simpa using hR) (by simp) ?_
  intro ⟨i, ver, acc⟩ Q' ⟨hi, ha, hc⟩ hq he hr
  dsimp only at hi ha hc
  simp
  refine CondK.intro (fun h7 => ?_) (fun h7 => ?_)
  · have h8 : i < w.length + 1 - (long r).toNat := by simp at h7; omega
    rw [show w.length + 1 - (long r).toNat - i = (w.length + 1 - (long r).toNat - (i + 1)) + 1 by omega, placesF] at hc
    simp
    have hlong : r.frm ≠ -1 → i < w.length := fun hne => by simp [long, hne] at h8; omega
    have hat1 := atW_range w hs ((i : Int) - 1)
    have hat2 := atW_range w hs ((i : Int) + long r)
    have hcl : CallP Try.prog 81 [sideV (sideL r.left), iv (atW w ((i : Int) - 1))] (bv (mayS r.left (atW w ((i : Int) - 1)))) := mayS_c _ _ hat1.1 hat1.2
    have hcr : CallP Try.prog 81 [sideV (sideL r.right), iv (atW w ((i : Int) + long r))] (bv (mayS r.right (atW w ((i : Int) + long r)))) := mayS_c _ _ hat2.1 hat2.2
    by_cases hlt : i < w.length
    · simp [hlt]
      refine PreK.intro (by omega) fun _ => ?_
      try simp 
      refine CallG.intro (fun _ => by simpa using at_c w (i - 1) hw) (by simp) (by simp) ?_
      try simp 
      refine CallG.intro (fun _ => by simpa using hcl) (by simp) (by simp) ?_
      try simp 
      refine CallG.intro (fun _ => by simpa using long_c r) (by simp) (by simp) ?_
      try simp 
      refine PreK.intro (by first | omega | (intros; first | omega | (refine ⟨by omega, ?_⟩; simp_all; done) | (simp_all; done) | (simp_all; omega))) fun _ => ?_
      try simp 
      refine CallG.intro (fun _ => by simpa using at_c w (i + long r) hw) (by simp) (by simp) ?_
      try simp 
      refine CallG.intro (fun _ => by simpa using hcr) (by simp) (by simp) ?_
      try simp 
      refine CondK.intro (fun h9 => ?_) (fun h9 => ?_)
      · have hat : isAt r w i = true := by simpa [isAt] using h9
        rw [if_pos hat] at hc
        try simp 
        refine PreK.intro (by omega) fun _ => ?_
        try simp 
        refine PreK.intro (by omega) fun _ => ?_
        try simp 
        exact hq (i + 1, ver + 1, acc ++ [(i : Int)]) _ ⟨by dsimp only; omega, by simp; omega, by simpa using hc⟩ (by dsimp only; omega) (by simp)
      · have hat : isAt r w i = false := by simpa only [isAt] using h9
        rw [if_neg (by simp [hat])] at hc
        try simp 
        refine PreK.intro (by omega) fun _ => ?_
        try simp 
        exact hq (i + 1, ver, acc) _ ⟨by dsimp only; omega, by dsimp only; omega, by simpa using hc⟩ (by dsimp only; omega) (by simp)
    · have hin : i = w.length := by omega
      subst hin
      have hf : r.frm = -1 := Decidable.byContradiction fun hne => absurd (hlong hne) hlt
      have hlc : CallP Try.prog 82 [.agg [iv (-1), ints r.to, ints r.left, ints r.right]] (iv (long r)) := by simpa [hf] using long_c r
      simp [hf]
      refine PreK.intro (by first | omega | (intros; first | omega | (refine ⟨by omega, ?_⟩; simp_all; done) | (simp_all; done) | (simp_all; omega))) fun _ => ?_
      try simp 
      refine CallG.intro (fun _ => by simpa using at_c w (w.length - 1) hw) (by simp) (by simp) ?_
      try simp 
      refine CallG.intro (fun _ => by simpa using hcl) (by simp) (by simp) ?_
      try simp 
      refine CallG.intro (fun _ => by simpa using hlc) (by simp) (by simp) ?_
      try simp 
      refine PreK.intro (by first | omega | (intros; first | omega | (refine ⟨by omega, ?_⟩; simp_all; done) | (simp_all; done) | (simp_all; omega))) fun _ => ?_
      try simp 
      refine CallG.intro (fun _ => by simpa using at_c w (w.length + long r) hw) (by simp) (by simp) ?_
      try simp 
      refine CallG.intro (fun _ => by simpa using hcr) (by simp) (by simp) ?_
      try simp 
      refine CondK.intro (fun h9 => ?_) (fun h9 => ?_)
      · have hat : isAt r w w.length = true := by simpa [isAt, hf] using h9
        rw [if_pos hat] at hc
        try simp 
        refine PreK.intro (by omega) fun _ => ?_
        try simp 
        refine PreK.intro (by omega) fun _ => ?_
        try simp 
        exact hq (w.length + 1, ver + 1, acc ++ [(w.length : Int)]) _ ⟨by dsimp only; omega, by simp; omega, by simpa using hc⟩ (by dsimp only; omega) (by simp [hf])
      · have hat : isAt r w w.length = false := by simpa only [isAt, hf, decide_true, Bool.true_or, Bool.true_and] using h9
        rw [if_neg (by simp [hat])] at hc
        try simp 
        refine PreK.intro (by omega) fun _ => ?_
        try simp 
        exact hq (w.length + 1, ver, acc) _ ⟨by dsimp only; omega, by dsimp only; omega, by simpa using hc⟩ (by dsimp only; omega) (by simp [hf])
  · have h8 : ¬ i < w.length + 1 - (long r).toNat := by simp at h7; omega
    have : w.length + 1 - (long r).toNat - i = 0 := by omega
    rw [this, placesF] at hc
    simp at hc
    apply he
    simp [hc]
end Go.Proofs.Ytkhddecnllcaiaa
end

section
/- Plain models of rules, steps and grounds, and what holds of them. -/
namespace Go.Proofs.Ytkhddecnllcaiaa
open Go.Abs Go

structure Move where
  step : Step
  word : List Int
deriving DecidableEq
instance : Inhabited Move := ⟨⟨⟨0, 0⟩, []⟩⟩

/-! ### grounds -/
def mayAll : List Int := [-1, 0, 1, 2, 3, 4, 5]
def insideM (a b : List Int) : Bool := mayAll.all fun n => !mayS a n || mayS b n
def twoErr (r s : Rule) : Int := if ruleErr r ≠ 0 then ruleErr r else ruleErr s
def specM (r s : Rule) : Bool := decide (twoErr r s = 0) && (decide (r.frm = s.frm) && (insideM r.left s.left && insideM r.right s.right))
end Go.Proofs.Ytkhddecnllcaiaa
end

section
/- Functions of the cut as the value layer reads them. (written by gen.py) -/
set_option maxRecDepth 20000
namespace Go.Proofs.Ytkhddecnllcaiaa
open Go.Abs Go

end Go.Proofs.Ytkhddecnllcaiaa
end

section
/- Contracts: rule.Places, rule.Apply and the checks of systems. -/
namespace Go.Proofs.Ytkhddecnllcaiaa
open Go.Abs Go
set_option maxRecDepth 20000
set_option maxHeartbeats 2000000
attribute [local irreducible] PreK CondK CallK CallG CallX LoopK

theorem wordErr_zero {w : List Int} (h : wordErr w = 0) : w.length ≤ 8 ∧ w.all isSound = true := by
  unfold wordErr at h
  by_cases h1 : 8 < w.length
  · simp [h1] at h
  · rw [if_neg h1] at h
    by_cases h2 : w.any (fun x => !isSound x) = true
    · rw [if_pos h2] at h; cases h
    · refine ⟨by omega, ?_⟩
      rw [List.all_eq_true]
      intro x hx
      simp only [List.any_eq_true, not_exists, not_and] at h2
      simpa using h2 x hx
theorem wordedErr_zero {r : Rule} {w : List Int} (h : wordedErr r w = 0) : ruleErr r = 0 ∧ wordErr w = 0 := by
  unfold wordedErr at h
  by_cases h1 : ruleErr r = 0
  · simp [h1] at h; exact ⟨h1, h⟩
  · simp [h1] at h
def placesM (r : Rule) (w : List Int) : List Int := placesF r w 0 (w.length + 1 - (long r).toNat)
def PlacesM (r : Rule) (w : List Int) : List Int × Int := if wordedErr r w ≠ 0 then ([], wordedErr r w) else (placesM r w, 0)
theorem Places_c (r : Rule) (w : List Int) (h : r.small) (hw : w.length ≤ 1000) : CallP Try.prog 7 [ruleV r, ints w] (.tup [ints (PlacesM r w).1, iv (PlacesM r w).2]) := by
  refine C7 (by simp) ?_
  simp [A7]
  try simp 
  repeat' (first
    | (refine CallX.pure (worded_c r w h hw) (by simp) (by simp) ?_; try simp )
    | (refine CallK.intro (worded_c r w h hw) (by simp) (by simp) ?_; try simp )
    | (refine CallG.intro (fun _ => worded_c r w h hw) (by simp) (by simp) ?_; try simp )
    | ((with_reducible refine PreK.intro ?_ ?_); (next => (first | omega | (intros; first | omega | (refine ⟨by omega, ?_⟩; repeat (first | assumption | constructor)) | assumption))); intro _; try simp )
    | fail)
  refine CondK.intro (fun h1 => ?_) (fun h1 => ?_)
  · simp at h1
    simp [PlacesM, h1]
  · simp at h1
    obtain ⟨h2, h3⟩ := wordedErr_zero h1
    obtain ⟨h4, h5⟩ := wordErr_zero h3
    try simp 
    repeat' (first
      | (refine CallX.pure (places_c r w h hw h5) (by simp) (by simp) ?_; try simp )
      | (refine CallK.intro (places_c r w h hw h5) (by simp) (by simp) ?_; try simp )
      | (refine CallG.intro (fun _ => places_c r w h hw h5) (by simp) (by simp) ?_; try simp )
      | ((with_reducible refine PreK.intro ?_ ?_); (next => (first | omega | (intros; first | omega | (refine ⟨by omega, ?_⟩; repeat (first | assumption | constructor)) | assumption))); intro _; try simp )
      | fail)
    simp [PlacesM, h1, placesM]

theorem placesF_len (r : Rule) (w : List Int) : ∀ (n i : Nat), (placesF r w i n).length ≤ n
  | 0, i => by simp [placesF]
  | n + 1, i => by
    have := placesF_len r w n (i + 1)
    unfold placesF
    split
    · simp; omega
    · omega
theorem ruleErr_to {r : Rule} (h : ruleErr r = 0) : r.to.length ≤ 2 := by
  unfold ruleErr at h
  by_cases h0 : (!isNeighbor r.frm) = true
  · rw [if_pos h0] at h; cases h
  · rw [if_neg h0] at h
    by_cases h1 : 2 < r.to.length
    · rw [if_pos h1] at h; cases h
    · omega
end Go.Proofs.Ytkhddecnllcaiaa
end

section
/- Functions of the cut as the value layer reads them. (written by gen.py) -/
set_option maxRecDepth 20000
namespace Go.Proofs.Ytkhddecnllcaiaa
open Go.Abs Go

def A14 : ACode :=
  (.seq (.reg [] [⟨some 4, (.assign (.const (.bool false))), 4, none⟩])
    (.seq (.seq (.reg [] [⟨some 5, (.assign (.const (.int .i64 0))), 3, none⟩])
    (.block 0 (.loop (.seq (.seq (.reg [] [⟨some 6, (.move (.tmp 5)), 3, none⟩,
      ⟨some 7, (.move (.tmp 0)), 22, none⟩,
      ⟨some 8, (.call ⟨(.builtin .len), #[(.tmp 7)], #[22]⟩), 3, none⟩,
      ⟨some 9, (.binOp .lss 3 (.tmp 6) (.tmp 8) 3), 4, none⟩])
    (.cond (.tmp 9)
    .skip
    (.exit 0)))
    (.seq (.block 1 (.seq (.reg [] [⟨some 12, (.move (.tmp 0)), 22, none⟩,
      ⟨some 13, (.move (.tmp 5)), 3, none⟩,
      ⟨some 14, (.indexAddr 22 (.tmp 12) (.tmp 13)), 0, none⟩,
      ⟨some 15, (.load 3 (.tmp 14)), 3, none⟩,
      ⟨some 16, (.move (.tmp 1)), 3, none⟩,
      ⟨some 17, (.binOp .eql 3 (.tmp 15) (.tmp 16) 3), 4, none⟩])
    (.cond (.tmp 17)
    (.seq (.reg [] [⟨some 4, (.assign (.const (.bool true))), 4, none⟩])
    .ret)
    .skip)))
    (.reg [] [⟨some 10, (.move (.tmp 5)), 3, none⟩,
      ⟨some 11, (.binOp .add 3 (.tmp 10) (.const (.int .i64 1)) 3), 3, none⟩,
      ⟨some 5, (.assign (.tmp 11)), 3, none⟩]))))))
    (.seq (.reg [] [⟨some 4, (.assign (.const (.bool false))), 4, none⟩])
    .ret)))
theorem C14 {args : List AV} {r : AV} (hn : args.length ≤ 18) (h : vc Try.prog T [] A14 (Fin T [(.tmp 4)] r) ⟨envOf 0 args, []⟩) : CallP Try.prog 14 args r :=
  callP_of tok mixed Try.func14 (by kernel_rfl) (by kernel_rfl) (by kernel_rfl : Try.f14.ntmps = 18) (by kernel_rfl : Try.f14.body.bind (strip 18 (fun _ => [])) = some A14) hn h

end Go.Proofs.Ytkhddecnllcaiaa
end

section
/- Contracts: the reference's rules. -/
namespace Go.Proofs.Ytkhddecnllcaiaa
open Go.Abs Go
set_option maxRecDepth 20000
set_option maxHeartbeats 2000000
attribute [local irreducible] PreK CondK CallK CallG CallX LoopK

theorem rHas_c (l : List Int) (n : Int) (hl : l.length ≤ 1000) : CallP Try.prog 14 [ints l, iv n] (bv (l.any fun x => decide (n = x))) := by
  refine C14 (by simp) ?_
  generalize hR : (l.any fun x => decide (n = x)) = R
  simp [A14]
  refine LoopK.by (fun i : Nat => ⟨[(5, iv i), (0, ints l), (1, iv n)], []⟩) (fun i => l.length - i) (fun i => i ≤ l.length ∧ ((l.drop i).any fun x => decide (n = x)) = R) 0 (by simpa using hR) (by simp) ?_
  intro i Q' ⟨hi, hc⟩ hq he hr
  try simp 
  refine CondK.intro (fun h => ?_) (fun h => ?_)
  · simp at h
    rw [drop_cons l i h] at hc
    simp [h]
    refine CondK.intro (fun h2 => ?_) (fun h2 => ?_)
    · simp at h2
      simp [h2] at hc
      try simp 
      apply hr
      simp [hc]
    · simp at h2
      simp [Ne.symm h2] at hc
      try simp 
      refine PreK.intro (by omega) fun _ => ?_
      try simp 
      exact hq (i + 1) _ ⟨by omega, by simpa using hc⟩ (by omega) (by simp)
  · simp at h
    rw [List.drop_eq_nil_of_le (by omega)] at hc
    simp at hc
    try simp 
    apply he
    simp [hc]
end Go.Proofs.Ytkhddecnllcaiaa
end

section
/- Contracts: the reference's checks of rules, and its Apply. -/
namespace Go.Proofs.Ytkhddecnllcaiaa
open Go.Abs Go
set_option maxRecDepth 20000
set_option maxHeartbeats 2000000
attribute [local irreducible] PreK CondK CallK CallG CallX LoopK

end Go.Proofs.Ytkhddecnllcaiaa
end

section
/- Contracts: systems and their steps. -/
namespace Go.Proofs.Ytkhddecnllcaiaa
open Go.Abs Go
set_option maxRecDepth 20000
set_option maxHeartbeats 2000000
attribute [local irreducible] PreK CondK CallK CallG CallX LoopK

def Sys.small (s : List Rule) : Prop := s.length ≤ 1000 ∧ ∀ r ∈ s, r.small
theorem Sys.small.el {s : List Rule} (h : Sys.small s) {i : Nat} (hi : i < s.length) : (el s i).small := by
  rw [el_eq s i hi]; exact h.2 _ (List.getElem_mem hi)
@[simp] def moveV (x : Move) : AV := .agg [iv x.step.rule, iv x.step.place, ints x.word]
@[simp] def movesV (l : List Move) : AV := .seq 3 (l.map moveV) false
@[simp] theorem nth_move (l : List Move) (k : Nat) (h : k < l.length) : nth (l.map moveV) k = moveV (el l k) := nth_map moveV l k h
end Go.Proofs.Ytkhddecnllcaiaa
end

section
/- Contracts: the steps of a word. -/
namespace Go.Proofs.Ytkhddecnllcaiaa
open Go.Abs Go
set_option maxRecDepth 20000
set_option maxHeartbeats 2000000
attribute [local irreducible] PreK CondK CallK CallG CallX LoopK

@[simp] def wordsV (l : List (List Int)) : AV := .seq 1 (l.map ints) false
end Go.Proofs.Ytkhddecnllcaiaa
end

section
/- Contracts: Steps, and which rule is special. -/
namespace Go.Proofs.Ytkhddecnllcaiaa
open Go.Abs Go
set_option maxRecDepth 20000
set_option maxHeartbeats 2000000
attribute [local irreducible] PreK CondK CallK CallG CallX LoopK
attribute [local simp] avsEq avEq akind teq vkind vEq

theorem two_c (r s : Rule) (h : r.small) (h2 : s.small) : CallP Try.prog 45 [ruleV r, ruleV s] (iv (twoErr r s)) := by
  refine C45 (by simp) ?_
  simp [A45]
  try simp 
  repeat' (first
    | (refine CallX.pure (validate_s h) (by simp) (by simp) ?_; try simp )
    | (refine CallK.intro (validate_s h) (by simp) (by simp) ?_; try simp )
    | (refine CallG.intro (fun _ => validate_s h) (by simp) (by simp) ?_; try simp )
    | ((with_reducible refine PreK.intro ?_ ?_); (next => (first | omega | (intros; first | omega | (refine ⟨by omega, ?_⟩; repeat (first | assumption | constructor)) | assumption))); intro _; try simp )
    | fail)
  refine CondK.intro (fun h1 => ?_) (fun h1 => ?_)
  · simp at h1
    simp [twoErr, h1]
  · simp at h1
    try simp 
    try simp 
    repeat' (first
      | (refine CallX.pure (validate_s h2) (by simp) (by simp) ?_; try simp )
      | (refine CallK.intro (validate_s h2) (by simp) (by simp) ?_; try simp )
      | (refine CallG.intro (fun _ => validate_s h2) (by simp) (by simp) ?_; try simp )
      | ((with_reducible refine PreK.intro ?_ ?_); (next => (first | omega | (intros; first | omega | (refine ⟨by omega, ?_⟩; repeat (first | assumption | constructor)) | assumption))); intro _; try simp )
      | fail)
    simp [twoErr, h1]
def andL (a b : List Int) : List Bool := [mayS a (-1) && mayS b (-1), mayS a 0 && mayS b 0, mayS a 1 && mayS b 1, mayS a 2 && mayS b 2, mayS a 3 && mayS b 3, mayS a 4 && mayS b 4, mayS a 5 && mayS b 5]
@[simp] theorem andL_length (a b : List Int) : (andL a b).length = 7 := rfl
@[simp] theorem sideL_length (a : List Int) : (sideL a).length = 7 := rfl
theorem big_of {n : Nat} (h : n ≤ 1000) : n ≤ big := by simp only [big]; omega
theorem and_s (a b : List Int) : CallP Try.prog 84 [sideV (sideL a), sideV (sideL b)] (sideV (andL a b)) := and_c _ _ _ _ _ _ _ _ _ _ _ _ _ _
theorem both_c (r s : Rule) (h : r.small) (h2 : s.small) : CallP Try.prog 46 [ruleV r, ruleV s] (.tup [sideV (andL r.left s.left), sideV (andL r.right s.right)]) := by
  refine C46 (by simp) ?_
  simp [A46]
  refine CallK.intro (by simpa using of_c r.left (big_of h.2.1)) (by simp) (by simp) ?_
  try simp 
  refine CallK.intro (by simpa using of_c s.left (big_of h2.2.1)) (by simp) (by simp) ?_
  try simp 
  refine CallK.intro (by simpa using and_s r.left s.left) (by simp) (by simp) ?_
  try simp 
  refine CallK.intro (by simpa using of_c r.right (big_of h.2.2)) (by simp) (by simp) ?_
  try simp 
  refine CallK.intro (by simpa using of_c s.right (big_of h2.2.2)) (by simp) (by simp) ?_
  try simp 
  refine CallK.intro (by simpa using and_s r.right s.right) (by simp) (by simp) ?_
  try simp 
  try simp 
  repeat' (first
    | ((with_reducible refine PreK.intro ?_ ?_); (next => (first | omega | (intros; first | omega | (refine ⟨by omega, ?_⟩; repeat (first | assumption | constructor)) | assumption))); intro _; try simp )
    | fail)
theorem and_self_eq (a b : Bool) : ((a && b) == a) = (!a || b) := by cases a <;> cases b <;> rfl
theorem IsSpecial_c (r s : Rule) (h : r.small) (h2 : s.small) : CallP Try.prog 10 [ruleV r, ruleV s] (.tup [bv (specM r s), iv (twoErr r s)]) := by
  refine C10 (by simp) ?_
  simp [A10]
  try simp 
  repeat' (first
    | (refine CallX.pure (two_c r s h h2) (by simp) (by simp) ?_; try simp )
    | (refine CallK.intro (two_c r s h h2) (by simp) (by simp) ?_; try simp )
    | (refine CallG.intro (fun _ => two_c r s h h2) (by simp) (by simp) ?_; try simp )
    | ((with_reducible refine PreK.intro ?_ ?_); (next => (first | omega | (intros; first | omega | (refine ⟨by omega, ?_⟩; repeat (first | assumption | constructor)) | assumption))); intro _; try simp )
    | fail)
  refine CondK.intro (fun h1 => ?_) (fun h1 => ?_)
  · simp at h1
    simp [specM, h1]
  · simp at h1
    try simp 
    repeat' (first
      | (refine CallX.pure (both_c r s h h2) (by simp) (by simp) ?_; try simp )
      | (refine CallK.intro (both_c r s h h2) (by simp) (by simp) ?_; try simp )
      | (refine CallG.intro (fun _ => both_c r s h h2) (by simp) (by simp) ?_; try simp )
      | ((with_reducible refine PreK.intro ?_ ?_); (next => (first | omega | (intros; first | omega | (refine ⟨by omega, ?_⟩; repeat (first | assumption | constructor)) | assumption))); intro _; try simp )
      | fail)
    try simp [andL, sideL]
    repeat' (first
      | (refine CallX.pure (of_c r.left (big_of h.2.1)) (by simp) (by simp) ?_; try simp [andL, sideL])
      | (refine CallK.intro (of_c r.left (big_of h.2.1)) (by simp) (by simp) ?_; try simp [andL, sideL])
      | (refine CallG.intro (fun _ => of_c r.left (big_of h.2.1)) (by simp) (by simp) ?_; try simp [andL, sideL])
      | (refine CallX.pure (of_c r.right (big_of h.2.2)) (by simp) (by simp) ?_; try simp [andL, sideL])
      | (refine CallK.intro (of_c r.right (big_of h.2.2)) (by simp) (by simp) ?_; try simp [andL, sideL])
      | (refine CallG.intro (fun _ => of_c r.right (big_of h.2.2)) (by simp) (by simp) ?_; try simp [andL, sideL])
      | ((with_reducible refine PreK.intro ?_ ?_); (next => (first | omega | (intros; first | omega | (refine ⟨by omega, ?_⟩; repeat (first | assumption | constructor)) | assumption))); intro _; try simp [andL, sideL])
      | fail)
    simp [specM, h1, insideM, mayAll, and_self_eq, Bool.and_assoc]
end Go.Proofs.Ytkhddecnllcaiaa
end

section
/- Functions of the cut as the value layer reads them. (written by gen.py) -/
set_option maxRecDepth 20000
namespace Go.Proofs.Ytkhddecnllcaiaa
open Go.Abs Go

def A3 : ACode :=
  (.seq (.reg [] [⟨some 2, (.box 26 (.tmp 0)), 0, none⟩,
      ⟨some 4, (.assign (.const (.bool false))), 4, none⟩])
    (.seq (.seq (.reg [] [⟨some 28, (.buildSlice 22 1 #[(0, (.const (.int .i64 2)))]), 22, none⟩,
      ⟨some 29, (.buildSlice 22 1 #[(0, (.const (.int .i64 0)))]), 22, none⟩,
      ⟨some 30, (.buildSlice 22 1 #[(0, (.const (.int .i64 0)))]), 22, none⟩,
      ⟨some 31, (.build 24 #[(0, (.const (.int .i64 (-1)))), (1, (.tmp 28)), (2, (.tmp 29)), (3, (.tmp 30))]), 24, none⟩,
      ⟨some 32, (.buildSlice 22 3 #[(0, (.const (.int .i64 0))), (1, (.const (.int .i64 0))), (2, (.const (.int .i64 0)))]), 22, none⟩,
      ⟨some 33, (.call ⟨(.value (.func 7)), #[(.tmp 31), (.tmp 32)], #[24, 22]⟩), 28, none⟩,
      ⟨some 27, (.move (.tmp 33)), 28, none⟩,
      ⟨some 34, (.extract (.tmp 27) 0), 22, none⟩,
      ⟨some 35, (.extract (.tmp 27) 1), 27, none⟩,
      ⟨some 5, (.assign (.tmp 34)), 22, none⟩,
      ⟨some 6, (.assign (.tmp 35)), 27, none⟩])
    (.seq (.reg [] [⟨some 36, (.move (.tmp 6)), 27, none⟩,
      ⟨some 37, (.binOp .neq 27 (.tmp 36) (.const (.int .i64 0)) 27), 4, none⟩,
      ⟨some 38, (.move (.tmp 37)), 4, none⟩,
      ⟨some 39, (.move (.tmp 5)), 22, some (38, false)⟩,
      ⟨some 40, (.buildSlice 22 2 #[(0, (.const (.int .i64 1))), (1, (.const (.int .i64 2)))]), 22, some (38, false)⟩,
      ⟨some 41, (.call ⟨(.value (.func 8)), #[(.tmp 39), (.tmp 40)], #[22, 22]⟩), 4, some (38, false)⟩,
      ⟨some 42, (.unOp .not 4 (.tmp 41)), 4, some (38, false)⟩,
      ⟨some 43, (.pick (.tmp 38) (.const (.bool true)) (.tmp 42)), 4, none⟩])
    (.cond (.tmp 43)
    (.seq (.reg [] [⟨some 4, (.assign (.const (.bool false))), 4, none⟩])
    .ret)
    .skip)))
    (.seq (.seq (.reg [] [⟨some 44, (.fieldAddr 26 (.tmp 2) 0), 0, none⟩,
      ⟨some 45, (.load 24 (.tmp 44)), 24, none⟩,
      ⟨some 46, (.call ⟨(.value (.func 9)), #[(.tmp 45)], #[24]⟩), 4, none⟩,
      ⟨some 47, (.move (.tmp 46)), 4, none⟩,
      ⟨some 48, (.fieldAddr 26 (.tmp 2) 1), 0, some (47, false)⟩,
      ⟨some 49, (.load 24 (.tmp 48)), 24, some (47, false)⟩,
      ⟨some 50, (.call ⟨(.value (.func 9)), #[(.tmp 49)], #[24]⟩), 4, some (47, false)⟩,
      ⟨some 51, (.pick (.tmp 47) (.const (.bool true)) (.tmp 50)), 4, none⟩,
      ⟨some 52, (.move (.tmp 51)), 4, none⟩,
      ⟨some 53, (.move (.tmp 1)), 22, some (52, false)⟩,
      ⟨some 54, (.call ⟨(.builtin .len), #[(.tmp 53)], #[22]⟩), 3, some (52, false)⟩,
      ⟨some 55, (.binOp .gtr 3 (.tmp 54) (.const (.int .i64 100)) 3), 4, some (52, false)⟩,
      ⟨some 56, (.pick (.tmp 52) (.const (.bool true)) (.tmp 55)), 4, none⟩])
    (.cond (.tmp 56)
    (.seq (.reg [] [⟨some 4, (.assign (.const (.bool true))), 4, none⟩])
    .ret)
    .skip))
    (.seq (.reg [] [⟨some 58, (.fieldAddr 26 (.tmp 2) 0), 0, none⟩,
      ⟨some 59, (.load 24 (.tmp 58)), 24, none⟩,
      ⟨some 60, (.fieldAddr 26 (.tmp 2) 1), 0, none⟩,
      ⟨some 61, (.load 24 (.tmp 60)), 24, none⟩,
      ⟨some 62, (.call ⟨(.value (.func 10)), #[(.tmp 59), (.tmp 61)], #[24, 24]⟩), 32, none⟩,
      ⟨some 57, (.move (.tmp 62)), 32, none⟩,
      ⟨some 63, (.extract (.tmp 57) 0), 4, none⟩,
      ⟨some 64, (.extract (.tmp 57) 1), 27, none⟩,
      ⟨some 7, (.assign (.tmp 63)), 4, none⟩,
      ⟨some 8, (.assign (.tmp 64)), 27, none⟩])
    (.seq (.seq (.reg [] [⟨some 65, (.move (.tmp 8)), 27, none⟩,
      ⟨some 66, (.binOp .neq 27 (.tmp 65) (.const (.int .i64 0)) 27), 4, none⟩])
    (.cond (.tmp 66)
    (.seq (.reg [] [⟨some 4, (.assign (.const (.bool true))), 4, none⟩])
    .ret)
    .skip))
    (.seq (.reg [] [⟨some 68, (.fieldAddr 26 (.tmp 2) 0), 0, none⟩,
      ⟨some 69, (.load 24 (.tmp 68)), 24, none⟩,
      ⟨some 70, (.call ⟨(.value (.func 11)), #[(.tmp 69)], #[24]⟩), 34, none⟩,
      ⟨some 67, (.move (.tmp 70)), 34, none⟩,
      ⟨some 71, (.extract (.tmp 67) 0), 24, none⟩,
      ⟨some 72, (.extract (.tmp 67) 1), 27, none⟩,
      ⟨some 9, (.alloc 24), 0, none⟩,
      ⟨none, (.store 24 (.tmp 9) (.tmp 71)), 0, none⟩,
      ⟨some 8, (.assign (.tmp 72)), 27, none⟩])
    (.seq (.reg [] [⟨some 74, (.fieldAddr 26 (.tmp 2) 1), 0, none⟩,
      ⟨some 75, (.load 24 (.tmp 74)), 24, none⟩,
      ⟨some 76, (.call ⟨(.value (.func 11)), #[(.tmp 75)], #[24]⟩), 34, none⟩,
      ⟨some 73, (.move (.tmp 76)), 34, none⟩,
      ⟨some 77, (.extract (.tmp 73) 0), 24, none⟩,
      ⟨some 78, (.extract (.tmp 73) 1), 27, none⟩,
      ⟨some 10, (.alloc 24), 0, none⟩,
      ⟨none, (.store 24 (.tmp 10) (.tmp 77)), 0, none⟩,
      ⟨some 11, (.assign (.tmp 78)), 27, none⟩])
    (.seq (.reg [] [⟨some 80, (.load 24 (.tmp 9)), 24, none⟩,
      ⟨some 81, (.load 24 (.tmp 10)), 24, none⟩,
      ⟨some 82, (.call ⟨(.value (.func 10)), #[(.tmp 80), (.tmp 81)], #[24, 24]⟩), 32, none⟩,
      ⟨some 79, (.move (.tmp 82)), 32, none⟩,
      ⟨some 83, (.extract (.tmp 79) 0), 4, none⟩,
      ⟨some 84, (.extract (.tmp 79) 1), 27, none⟩,
      ⟨some 12, (.assign (.tmp 83)), 4, none⟩,
      ⟨some 13, (.assign (.tmp 84)), 27, none⟩])
    (.seq (.reg [] [⟨some 86, (.fieldAddr 26 (.tmp 2) 0), 0, none⟩,
      ⟨some 87, (.load 24 (.tmp 86)), 24, none⟩,
      ⟨some 88, (.fieldAddr 26 (.tmp 2) 1), 0, none⟩,
      ⟨some 89, (.load 24 (.tmp 88)), 24, none⟩,
      ⟨some 90, (.call ⟨(.value (.func 12)), #[(.tmp 87), (.tmp 89)], #[24, 24]⟩), 32, none⟩,
      ⟨some 85, (.move (.tmp 90)), 32, none⟩,
      ⟨some 91, (.extract (.tmp 85) 0), 4, none⟩,
      ⟨some 92, (.extract (.tmp 85) 1), 27, none⟩,
      ⟨some 14, (.assign (.tmp 91)), 4, none⟩,
      ⟨some 15, (.assign (.tmp 92)), 27, none⟩])
    (.seq (.seq (.reg [] [⟨some 93, (.move (.tmp 8)), 27, none⟩,
      ⟨some 94, (.binOp .neq 27 (.tmp 93) (.const (.int .i64 0)) 27), 4, none⟩,
      ⟨some 95, (.move (.tmp 94)), 4, none⟩,
      ⟨some 96, (.move (.tmp 11)), 27, some (95, false)⟩,
      ⟨some 97, (.binOp .neq 27 (.tmp 96) (.const (.int .i64 0)) 27), 4, some (95, false)⟩,
      ⟨some 98, (.pick (.tmp 95) (.const (.bool true)) (.tmp 97)), 4, none⟩,
      ⟨some 99, (.move (.tmp 98)), 4, none⟩,
      ⟨some 100, (.move (.tmp 13)), 27, some (99, false)⟩,
      ⟨some 101, (.binOp .neq 27 (.tmp 100) (.const (.int .i64 0)) 27), 4, some (99, false)⟩,
      ⟨some 102, (.pick (.tmp 99) (.const (.bool true)) (.tmp 101)), 4, none⟩,
      ⟨some 103, (.move (.tmp 102)), 4, none⟩,
      ⟨some 104, (.move (.tmp 15)), 27, some (103, false)⟩,
      ⟨some 105, (.binOp .neq 27 (.tmp 104) (.const (.int .i64 0)) 27), 4, some (103, false)⟩,
      ⟨some 106, (.pick (.tmp 103) (.const (.bool true)) (.tmp 105)), 4, none⟩,
      ⟨some 107, (.move (.tmp 106)), 4, none⟩,
      ⟨some 108, (.move (.tmp 12)), 4, some (107, false)⟩,
      ⟨some 109, (.move (.tmp 7)), 4, some (107, false)⟩,
      ⟨some 110, (.binOp .neq 4 (.tmp 108) (.tmp 109) 4), 4, some (107, false)⟩,
      ⟨some 111, (.pick (.tmp 107) (.const (.bool true)) (.tmp 110)), 4, none⟩,
      ⟨some 112, (.move (.tmp 111)), 4, none⟩,
      ⟨some 113, (.move (.tmp 7)), 4, some (112, false)⟩,
      ⟨some 114, (.move (.tmp 113)), 4, some (112, false)⟩,
      ⟨some 115, (.move (.tmp 14)), 4, some (114, true)⟩,
      ⟨some 116, (.unOp .not 4 (.tmp 115)), 4, some (114, true)⟩,
      ⟨some 117, (.pick (.tmp 114) (.tmp 116) (.const (.bool false))), 4, some (112, false)⟩,
      ⟨some 118, (.pick (.tmp 112) (.const (.bool true)) (.tmp 117)), 4, none⟩])
    (.cond (.tmp 118)
    (.seq (.reg [] [⟨some 4, (.assign (.const (.bool false))), 4, none⟩])
    .ret)
    .skip))
    (.seq (.reg [] [⟨some 120, (.fieldAddr 26 (.tmp 2) 0), 0, none⟩,
      ⟨some 121, (.load 24 (.tmp 120)), 24, none⟩,
      ⟨some 122, (.move (.tmp 1)), 22, none⟩,
      ⟨some 123, (.call ⟨(.value (.func 7)), #[(.tmp 121), (.tmp 122)], #[24, 22]⟩), 28, none⟩,
      ⟨some 119, (.move (.tmp 123)), 28, none⟩,
      ⟨some 124, (.extract (.tmp 119) 0), 22, none⟩,
      ⟨some 125, (.extract (.tmp 119) 1), 27, none⟩,
      ⟨some 16, (.assign (.tmp 124)), 22, none⟩,
      ⟨some 8, (.assign (.tmp 125)), 27, none⟩])
    (.seq (.seq (.reg [] [⟨some 126, (.move (.tmp 8)), 27, none⟩,
      ⟨some 127, (.binOp .neq 27 (.tmp 126) (.const (.int .i64 0)) 27), 4, none⟩])
    (.cond (.tmp 127)
    (.seq (.reg [] [⟨some 4, (.assign (.const (.bool true))), 4, none⟩])
    .ret)
    .skip))
    (.seq (.reg [] [⟨some 129, (.fieldAddr 26 (.tmp 2) 1), 0, none⟩,
      ⟨some 130, (.load 24 (.tmp 129)), 24, none⟩,
      ⟨some 131, (.move (.tmp 1)), 22, none⟩,
      ⟨some 132, (.call ⟨(.value (.func 7)), #[(.tmp 130), (.tmp 131)], #[24, 22]⟩), 28, none⟩,
      ⟨some 128, (.move (.tmp 132)), 28, none⟩,
      ⟨some 133, (.extract (.tmp 128) 0), 22, none⟩,
      ⟨some 134, (.extract (.tmp 128) 1), 27, none⟩,
      ⟨some 17, (.assign (.tmp 133)), 22, none⟩,
      ⟨some 8, (.assign (.tmp 134)), 27, none⟩])
    (.seq (.reg [] [⟨some 136, (.move (.tmp 1)), 22, none⟩,
      ⟨some 137, (.call ⟨(.value (.func 13)), #[(.tmp 136)], #[22]⟩), 28, none⟩,
      ⟨some 135, (.move (.tmp 137)), 28, none⟩,
      ⟨some 138, (.extract (.tmp 135) 0), 22, none⟩,
      ⟨some 139, (.extract (.tmp 135) 1), 27, none⟩,
      ⟨some 18, (.assign (.tmp 138)), 22, none⟩,
      ⟨some 11, (.assign (.tmp 139)), 27, none⟩])
    (.seq (.seq (.reg [] [⟨some 140, (.move (.tmp 8)), 27, none⟩,
      ⟨some 141, (.binOp .neq 27 (.tmp 140) (.const (.int .i64 0)) 27), 4, none⟩,
      ⟨some 142, (.move (.tmp 141)), 4, none⟩,
      ⟨some 143, (.move (.tmp 11)), 27, some (142, false)⟩,
      ⟨some 144, (.binOp .neq 27 (.tmp 143) (.const (.int .i64 0)) 27), 4, some (142, false)⟩,
      ⟨some 145, (.pick (.tmp 142) (.const (.bool true)) (.tmp 144)), 4, none⟩])
    (.cond (.tmp 145)
    (.seq (.reg [] [⟨some 4, (.assign (.const (.bool false))), 4, none⟩])
    .ret)
    .skip))
    (.seq (.seq (.reg [] [⟨some 19, (.assign (.const (.int .i64 0))), 3, none⟩])
    (.block 0 (.loop (.seq (.seq (.reg [] [⟨some 146, (.move (.tmp 19)), 3, none⟩,
      ⟨some 147, (.move (.tmp 16)), 22, none⟩,
      ⟨some 148, (.call ⟨(.builtin .len), #[(.tmp 147)], #[22]⟩), 3, none⟩,
      ⟨some 149, (.binOp .lss 3 (.tmp 146) (.tmp 148) 3), 4, none⟩])
    (.cond (.tmp 149)
    .skip
    (.exit 0)))
    (.seq (.block 1 (.seq (.reg [] [⟨some 152, (.move (.tmp 17)), 22, none⟩,
      ⟨some 153, (.move (.tmp 16)), 22, none⟩,
      ⟨some 154, (.move (.tmp 19)), 3, none⟩,
      ⟨some 155, (.indexAddr 22 (.tmp 153) (.tmp 154)), 0, none⟩,
      ⟨some 156, (.load 3 (.tmp 155)), 3, none⟩,
      ⟨some 157, (.call ⟨(.value (.func 14)), #[(.tmp 152), (.tmp 156)], #[22, 3]⟩), 4, none⟩,
      ⟨some 20, (.assign (.tmp 157)), 4, none⟩])
    (.seq (.reg [] [⟨some 158, (.move (.tmp 7)), 4, none⟩,
      ⟨some 159, (.move (.tmp 158)), 4, none⟩,
      ⟨some 160, (.move (.tmp 20)), 4, some (159, true)⟩,
      ⟨some 161, (.unOp .not 4 (.tmp 160)), 4, some (159, true)⟩,
      ⟨some 162, (.pick (.tmp 159) (.tmp 161) (.const (.bool false))), 4, none⟩,
      ⟨some 163, (.move (.tmp 162)), 4, none⟩,
      ⟨some 164, (.move (.tmp 20)), 4, some (163, false)⟩,
      ⟨some 165, (.move (.tmp 164)), 4, some (163, false)⟩,
      ⟨some 166, (.move (.tmp 14)), 4, some (165, true)⟩,
      ⟨some 167, (.unOp .not 4 (.tmp 166)), 4, some (165, true)⟩,
      ⟨some 168, (.pick (.tmp 165) (.tmp 167) (.const (.bool false))), 4, some (163, false)⟩,
      ⟨some 169, (.move (.tmp 168)), 4, some (163, false)⟩,
      ⟨some 170, (.fieldAddr 26 (.tmp 2) 0), 0, some (169, true)⟩,
      ⟨some 171, (.fieldAddr 24 (.tmp 170) 0), 0, some (169, true)⟩,
      ⟨some 172, (.load 3 (.tmp 171)), 3, some (169, true)⟩,
      ⟨some 173, (.fieldAddr 26 (.tmp 2) 1), 0, some (169, true)⟩,
      ⟨some 174, (.fieldAddr 24 (.tmp 173) 0), 0, some (169, true)⟩,
      ⟨some 175, (.load 3 (.tmp 174)), 3, some (169, true)⟩,
      ⟨some 176, (.binOp .eql 3 (.tmp 172) (.tmp 175) 3), 4, some (169, true)⟩,
      ⟨some 177, (.pick (.tmp 169) (.tmp 176) (.const (.bool false))), 4, some (163, false)⟩,
      ⟨some 178, (.pick (.tmp 163) (.const (.bool true)) (.tmp 177)), 4, none⟩])
    (.cond (.tmp 178)
    (.seq (.reg [] [⟨some 4, (.assign (.const (.bool false))), 4, none⟩])
    .ret)
    .skip))))
    (.reg [] [⟨some 150, (.move (.tmp 19)), 3, none⟩,
      ⟨some 151, (.binOp .add 3 (.tmp 150) (.const (.int .i64 1)) 3), 3, none⟩,
      ⟨some 19, (.assign (.tmp 151)), 3, none⟩]))))))
    (.seq (.reg [] [⟨some 180, (.fieldAddr 26 (.tmp 2) 0), 0, none⟩,
      ⟨some 181, (.load 24 (.tmp 180)), 24, none⟩,
      ⟨some 182, (.move (.tmp 1)), 22, none⟩,
      ⟨some 183, (.call ⟨(.value (.func 15)), #[(.tmp 181), (.tmp 182)], #[24, 22]⟩), 28, none⟩,
      ⟨some 179, (.move (.tmp 183)), 28, none⟩,
      ⟨some 184, (.extract (.tmp 179) 0), 22, none⟩,
      ⟨some 185, (.extract (.tmp 179) 1), 27, none⟩,
      ⟨some 21, (.assign (.tmp 184)), 22, none⟩,
      ⟨some 8, (.assign (.tmp 185)), 27, none⟩])
    (.seq (.reg [] [⟨some 187, (.load 24 (.tmp 9)), 24, none⟩,
      ⟨some 188, (.move (.tmp 18)), 22, none⟩,
      ⟨some 189, (.call ⟨(.value (.func 15)), #[(.tmp 187), (.tmp 188)], #[24, 22]⟩), 28, none⟩,
      ⟨some 186, (.move (.tmp 189)), 28, none⟩,
      ⟨some 190, (.extract (.tmp 186) 0), 22, none⟩,
      ⟨some 191, (.extract (.tmp 186) 1), 27, none⟩,
      ⟨some 22, (.assign (.tmp 190)), 22, none⟩,
      ⟨some 11, (.assign (.tmp 191)), 27, none⟩])
    (.seq (.seq (.reg [] [⟨some 192, (.move (.tmp 8)), 27, none⟩,
      ⟨some 193, (.move (.tmp 11)), 27, none⟩,
      ⟨some 194, (.binOp .neq 27 (.tmp 192) (.tmp 193) 27), 4, none⟩])
    (.cond (.tmp 194)
    (.seq (.reg [] [⟨some 4, (.assign (.const (.bool false))), 4, none⟩])
    .ret)
    .skip))
    (.seq (.reg [] [⟨some 195, (.fieldAddr 26 (.tmp 2) 0), 0, none⟩,
      ⟨some 196, (.fieldAddr 24 (.tmp 195) 1), 0, none⟩,
      ⟨some 197, (.load 22 (.tmp 196)), 22, none⟩,
      ⟨some 198, (.call ⟨(.builtin .len), #[(.tmp 197)], #[22]⟩), 3, none⟩,
      ⟨some 23, (.assign (.tmp 198)), 3, none⟩])
    (.seq (.seq (.reg [] [⟨some 199, (.fieldAddr 26 (.tmp 2) 0), 0, none⟩,
      ⟨some 200, (.fieldAddr 24 (.tmp 199) 0), 0, none⟩,
      ⟨some 201, (.load 3 (.tmp 200)), 3, none⟩,
      ⟨some 202, (.binOp .geq 3 (.tmp 201) (.const (.int .i64 0)) 3), 4, none⟩])
    (.cond (.tmp 202)
    (.reg [] [⟨some 203, (.move (.tmp 23)), 3, none⟩,
      ⟨some 204, (.binOp .sub 3 (.tmp 203) (.const (.int .i64 1)) 3), 3, none⟩,
      ⟨some 23, (.assign (.tmp 204)), 3, none⟩])
    .skip))
    (.seq (.seq (.reg [] [⟨some 205, (.move (.tmp 8)), 27, none⟩,
      ⟨some 206, (.binOp .neq 27 (.tmp 205) (.const (.int .i64 0)) 27), 4, none⟩])
    (.cond (.tmp 206)
    (.seq (.reg [] [⟨some 207, (.move (.tmp 8)), 27, none⟩,
      ⟨some 208, (.binOp .eql 27 (.tmp 207) (.const (.int .i64 3)) 27), 4, none⟩,
      ⟨some 209, (.move (.tmp 208)), 4, none⟩,
      ⟨some 210, (.move (.tmp 1)), 22, some (209, true)⟩,
      ⟨some 211, (.call ⟨(.builtin .len), #[(.tmp 210)], #[22]⟩), 3, some (209, true)⟩,
      ⟨some 212, (.move (.tmp 23)), 3, some (209, true)⟩,
      ⟨some 213, (.move (.tmp 16)), 22, some (209, true)⟩,
      ⟨some 214, (.call ⟨(.builtin .len), #[(.tmp 213)], #[22]⟩), 3, some (209, true)⟩,
      ⟨some 215, (.binOp .mul 3 (.tmp 212) (.tmp 214) 3), 3, some (209, true)⟩,
      ⟨some 216, (.binOp .add 3 (.tmp 211) (.tmp 215) 3), 3, some (209, true)⟩,
      ⟨some 217, (.binOp .gtr 3 (.tmp 216) (.const (.int .i64 8)) 3), 4, some (209, true)⟩,
      ⟨some 218, (.pick (.tmp 209) (.tmp 217) (.const (.bool false))), 4, none⟩,
      ⟨some 4, (.assign (.tmp 218)), 4, none⟩])
    .ret)
    .skip))
    (.seq (.reg [] [⟨some 220, (.move (.tmp 21)), 22, none⟩,
      ⟨some 221, (.call ⟨(.value (.func 13)), #[(.tmp 220)], #[22]⟩), 28, none⟩,
      ⟨some 219, (.move (.tmp 221)), 28, none⟩,
      ⟨some 222, (.extract (.tmp 219) 0), 22, none⟩,
      ⟨some 223, (.extract (.tmp 219) 1), 27, none⟩,
      ⟨some 24, (.assign (.tmp 222)), 22, none⟩,
      ⟨some 13, (.assign (.tmp 223)), 27, none⟩])
    (.seq (.reg [] [⟨some 225, (.fieldAddr 26 (.tmp 2) 0), 0, none⟩,
      ⟨some 226, (.load 24 (.tmp 225)), 24, none⟩,
      ⟨some 227, (.move (.tmp 1)), 22, none⟩,
      ⟨some 228, (.call ⟨(.value (.func 16)), #[(.tmp 226), (.tmp 227)], #[24, 22]⟩), 38, none⟩,
      ⟨some 224, (.move (.tmp 228)), 38, none⟩,
      ⟨some 229, (.extract (.tmp 224) 0), 22, none⟩,
      ⟨some 230, (.extract (.tmp 224) 1), 4, none⟩,
      ⟨some 231, (.extract (.tmp 224) 2), 27, none⟩,
      ⟨some 25, (.assign (.tmp 229)), 22, none⟩,
      ⟨some 26, (.assign (.tmp 230)), 4, none⟩,
      ⟨some 15, (.assign (.tmp 231)), 27, none⟩])
    (.seq (.seq (.reg [] [⟨some 232, (.move (.tmp 13)), 27, none⟩,
      ⟨some 233, (.binOp .neq 27 (.tmp 232) (.const (.int .i64 0)) 27), 4, none⟩,
      ⟨some 234, (.move (.tmp 233)), 4, none⟩,
      ⟨some 235, (.move (.tmp 22)), 22, some (234, false)⟩,
      ⟨some 236, (.move (.tmp 24)), 22, some (234, false)⟩,
      ⟨some 237, (.call ⟨(.value (.func 8)), #[(.tmp 235), (.tmp 236)], #[22, 22]⟩), 4, some (234, false)⟩,
      ⟨some 238, (.unOp .not 4 (.tmp 237)), 4, some (234, false)⟩,
      ⟨some 239, (.pick (.tmp 234) (.const (.bool true)) (.tmp 238)), 4, none⟩,
      ⟨some 240, (.move (.tmp 239)), 4, none⟩,
      ⟨some 241, (.move (.tmp 21)), 22, some (240, false)⟩,
      ⟨some 242, (.call ⟨(.builtin .len), #[(.tmp 241)], #[22]⟩), 3, some (240, false)⟩,
      ⟨some 243, (.move (.tmp 1)), 22, some (240, false)⟩,
      ⟨some 244, (.call ⟨(.builtin .len), #[(.tmp 243)], #[22]⟩), 3, some (240, false)⟩,
      ⟨some 245, (.move (.tmp 23)), 3, some (240, false)⟩,
      ⟨some 246, (.move (.tmp 16)), 22, some (240, false)⟩,
      ⟨some 247, (.call ⟨(.builtin .len), #[(.tmp 246)], #[22]⟩), 3, some (240, false)⟩,
      ⟨some 248, (.binOp .mul 3 (.tmp 245) (.tmp 247) 3), 3, some (240, false)⟩,
      ⟨some 249, (.binOp .add 3 (.tmp 244) (.tmp 248) 3), 3, some (240, false)⟩,
      ⟨some 250, (.binOp .neq 3 (.tmp 242) (.tmp 249) 3), 4, some (240, false)⟩,
      ⟨some 251, (.pick (.tmp 240) (.const (.bool true)) (.tmp 250)), 4, none⟩,
      ⟨some 252, (.move (.tmp 251)), 4, none⟩,
      ⟨some 253, (.move (.tmp 15)), 27, some (252, false)⟩,
      ⟨some 254, (.binOp .neq 27 (.tmp 253) (.const (.int .i64 0)) 27), 4, some (252, false)⟩,
      ⟨some 255, (.pick (.tmp 252) (.const (.bool true)) (.tmp 254)), 4, none⟩,
      ⟨some 256, (.move (.tmp 255)), 4, none⟩,
      ⟨some 257, (.move (.tmp 26)), 4, some (256, false)⟩,
      ⟨some 258, (.move (.tmp 16)), 22, some (256, false)⟩,
      ⟨some 259, (.call ⟨(.builtin .len), #[(.tmp 258)], #[22]⟩), 3, some (256, false)⟩,
      ⟨some 260, (.binOp .gtr 3 (.tmp 259) (.const (.int .i64 0)) 3), 4, some (256, false)⟩,
      ⟨some 261, (.binOp .neq 4 (.tmp 257) (.tmp 260) 4), 4, some (256, false)⟩,
      ⟨some 262, (.pick (.tmp 256) (.const (.bool true)) (.tmp 261)), 4, none⟩])
    (.cond (.tmp 262)
    (.seq (.reg [] [⟨some 4, (.assign (.const (.bool false))), 4, none⟩])
    .ret)
    .skip))
    (.seq (.reg [] [⟨some 263, (.move (.tmp 26)), 4, none⟩,
      ⟨some 264, (.unOp .not 4 (.tmp 263)), 4, none⟩,
      ⟨some 265, (.move (.tmp 264)), 4, none⟩,
      ⟨some 266, (.move (.tmp 25)), 22, some (265, false)⟩,
      ⟨some 267, (.call ⟨(.builtin .len), #[(.tmp 266)], #[22]⟩), 3, some (265, false)⟩,
      ⟨some 268, (.move (.tmp 1)), 22, some (265, false)⟩,
      ⟨some 269, (.call ⟨(.builtin .len), #[(.tmp 268)], #[22]⟩), 3, some (265, false)⟩,
      ⟨some 270, (.move (.tmp 23)), 3, some (265, false)⟩,
      ⟨some 271, (.binOp .add 3 (.tmp 269) (.tmp 270) 3), 3, some (265, false)⟩,
      ⟨some 272, (.binOp .eql 3 (.tmp 267) (.tmp 271) 3), 4, some (265, false)⟩,
      ⟨some 273, (.pick (.tmp 265) (.const (.bool true)) (.tmp 272)), 4, none⟩,
      ⟨some 4, (.assign (.tmp 273)), 4, none⟩])
    .ret))))))))))))))))))))))))))
theorem C3 {args : List AV} {r : AV} (hn : args.length ≤ 274) (h : vc Try.prog T [] A3 (Fin T [(.tmp 4)] r) ⟨envOf 0 args, []⟩) : CallP Try.prog 3 args r :=
  callP_of tok mixed Try.func3 (by kernel_rfl) (by kernel_rfl) (by kernel_rfl : Try.f3.ntmps = 274) (by kernel_rfl : Try.f3.body.bind (strip 274 (fun _ => [])) = some A3) hn h
def A9 : ACode :=
  (.seq (.reg [] [⟨some 1, (.box 24 (.tmp 0)), 0, none⟩,
      ⟨some 2, (.assign (.const (.bool false))), 4, none⟩])
    (.seq (.reg [] [⟨some 3, (.fieldAddr 24 (.tmp 1) 1), 0, none⟩,
      ⟨some 4, (.load 22 (.tmp 3)), 22, none⟩,
      ⟨some 5, (.call ⟨(.value (.func 44)), #[(.tmp 4)], #[22]⟩), 4, none⟩,
      ⟨some 6, (.move (.tmp 5)), 4, none⟩,
      ⟨some 7, (.fieldAddr 24 (.tmp 1) 2), 0, some (6, false)⟩,
      ⟨some 8, (.load 22 (.tmp 7)), 22, some (6, false)⟩,
      ⟨some 9, (.call ⟨(.value (.func 44)), #[(.tmp 8)], #[22]⟩), 4, some (6, false)⟩,
      ⟨some 10, (.pick (.tmp 6) (.const (.bool true)) (.tmp 9)), 4, none⟩,
      ⟨some 11, (.move (.tmp 10)), 4, none⟩,
      ⟨some 12, (.fieldAddr 24 (.tmp 1) 3), 0, some (11, false)⟩,
      ⟨some 13, (.load 22 (.tmp 12)), 22, some (11, false)⟩,
      ⟨some 14, (.call ⟨(.value (.func 44)), #[(.tmp 13)], #[22]⟩), 4, some (11, false)⟩,
      ⟨some 15, (.pick (.tmp 11) (.const (.bool true)) (.tmp 14)), 4, none⟩,
      ⟨some 2, (.assign (.tmp 15)), 4, none⟩])
    .ret))
theorem C9 {args : List AV} {r : AV} (hn : args.length ≤ 16) (h : vc Try.prog T [] A9 (Fin T [(.tmp 2)] r) ⟨envOf 0 args, []⟩) : CallP Try.prog 9 args r :=
  callP_of tok mixed Try.func9 (by kernel_rfl) (by kernel_rfl) (by kernel_rfl : Try.f9.ntmps = 16) (by kernel_rfl : Try.f9.body.bind (strip 16 (fun _ => [])) = some A9) hn h
def A11 : ACode :=
  (.seq (.reg [] [⟨some 1, (.box 24 (.tmp 0)), 0, none⟩,
      ⟨some 2, (.alloc 24), 0, none⟩,
      ⟨some 3, (.assign (.const (.int .i64 0))), 27, none⟩])
    (.seq (.seq (.reg [] [⟨some 5, (.load 24 (.tmp 1)), 24, none⟩,
      ⟨some 6, (.call ⟨(.value (.func 48)), #[(.tmp 5)], #[24]⟩), 27, none⟩,
      ⟨some 4, (.assign (.tmp 6)), 27, none⟩])
    (.seq (.reg [] [⟨some 7, (.move (.tmp 4)), 27, none⟩,
      ⟨some 8, (.binOp .neq 27 (.tmp 7) (.const (.int .i64 0)) 27), 4, none⟩])
    (.cond (.tmp 8)
    (.seq (.reg [] [⟨some 9, (.build 24 #[]), 24, none⟩,
      ⟨some 10, (.move (.tmp 4)), 27, none⟩,
      ⟨none, (.store 24 (.tmp 2) (.tmp 9)), 0, none⟩,
      ⟨some 3, (.assign (.tmp 10)), 27, none⟩])
    .ret)
    .skip)))
    (.seq (.draw [] [⟨some 11, (.fieldAddr 24 (.tmp 1) 0), 0, none⟩,
      ⟨some 12, (.load 3 (.tmp 11)), 3, none⟩,
      ⟨some 13, (.fieldAddr 24 (.tmp 1) 1), 0, none⟩,
      ⟨some 14, (.load 22 (.tmp 13)), 22, none⟩,
      ⟨some 15, (.call ⟨(.value (.func 49)), #[(.tmp 14)], #[22]⟩), 22, none⟩,
      ⟨some 16, (.fieldAddr 24 (.tmp 1) 3), 0, none⟩,
      ⟨some 17, (.load 22 (.tmp 16)), 22, none⟩,
      ⟨some 18, (.call ⟨(.value (.func 50)), #[(.tmp 17)], #[22]⟩), 22, none⟩,
      ⟨some 19, (.fieldAddr 24 (.tmp 1) 2), 0, none⟩,
      ⟨some 20, (.load 22 (.tmp 19)), 22, none⟩,
      ⟨some 21, (.call ⟨(.value (.func 50)), #[(.tmp 20)], #[22]⟩), 22, none⟩,
      ⟨some 22, (.build 24 #[(0, (.tmp 12)), (1, (.tmp 15)), (2, (.tmp 18)), (3, (.tmp 21))]), 24, none⟩,
      ⟨none, (.store 24 (.tmp 2) (.tmp 22)), 0, none⟩,
      ⟨some 3, (.assign (.const (.int .i64 0))), 27, none⟩] [(0, 2), (1, 2), (0, 3), (1, 3), (0, 4), (1, 4), (0, 5), (1, 5), (2, 5), (3, 5), (4, 5), (0, 6), (1, 6), (2, 6), (3, 6), (4, 6), (0, 7), (1, 7), (0, 8), (1, 8), (2, 8), (3, 8), (4, 8), (5, 8), (6, 8), (7, 8), (0, 9), (1, 9), (2, 9), (3, 9), (4, 9), (5, 9), (6, 9), (7, 9), (0, 10), (1, 10)])
    .ret)))
theorem C11 {args : List AV} {r : AV} (hn : args.length ≤ 23) (h : vc Try.prog T [] A11 (Fin T [(.cell 2 24), (.tmp 3)] r) ⟨envOf 0 args, []⟩) : CallP Try.prog 11 args r :=
  callP_of tok mixed Try.func11 (by kernel_rfl) (by kernel_rfl) (by kernel_rfl : Try.f11.ntmps = 23) (by kernel_rfl : Try.f11.body.bind (strip 23 (fun _ => [])) = some A11) hn h
def A12 : ACode :=
  (.seq (.reg [] [⟨some 2, (.box 24 (.tmp 0)), 0, none⟩,
      ⟨some 3, (.box 24 (.tmp 1)), 0, none⟩,
      ⟨some 4, (.assign (.const (.bool false))), 4, none⟩,
      ⟨some 5, (.assign (.const (.int .i64 0))), 27, none⟩])
    (.seq (.reg [] [⟨some 11, (.load 24 (.tmp 2)), 24, none⟩,
      ⟨some 12, (.load 24 (.tmp 3)), 24, none⟩,
      ⟨some 13, (.call ⟨(.value (.func 51)), #[(.tmp 11), (.tmp 12)], #[24, 24]⟩), 82, none⟩,
      ⟨some 10, (.move (.tmp 13)), 82, none⟩,
      ⟨some 14, (.extract (.tmp 10) 0), 22, none⟩,
      ⟨some 15, (.extract (.tmp 10) 1), 22, none⟩,
      ⟨some 16, (.extract (.tmp 10) 2), 4, none⟩,
      ⟨some 17, (.extract (.tmp 10) 3), 27, none⟩,
      ⟨some 6, (.assign (.tmp 14)), 22, none⟩,
      ⟨some 7, (.assign (.tmp 15)), 22, none⟩,
      ⟨some 8, (.assign (.tmp 16)), 4, none⟩,
      ⟨some 9, (.assign (.tmp 17)), 27, none⟩])
    (.seq (.reg [] [⟨some 18, (.move (.tmp 8)), 4, none⟩,
      ⟨some 19, (.move (.tmp 9)), 27, none⟩,
      ⟨some 4, (.assign (.tmp 18)), 4, none⟩,
      ⟨some 5, (.assign (.tmp 19)), 27, none⟩])
    .ret)))
theorem C12 {args : List AV} {r : AV} (hn : args.length ≤ 20) (h : vc Try.prog T [] A12 (Fin T [(.tmp 4), (.tmp 5)] r) ⟨envOf 0 args, []⟩) : CallP Try.prog 12 args r :=
  callP_of tok mixed Try.func12 (by kernel_rfl) (by kernel_rfl) (by kernel_rfl : Try.f12.ntmps = 20) (by kernel_rfl : Try.f12.body.bind (strip 20 (fun _ => [])) = some A12) hn h
def A13 : ACode :=
  (.seq (.reg [] [⟨some 2, (.assign (.const (.slice none 0 0))), 22, none⟩,
      ⟨some 3, (.assign (.const (.int .i64 0))), 27, none⟩])
    (.seq (.seq (.reg [] [⟨some 5, (.move (.tmp 0)), 22, none⟩,
      ⟨some 6, (.call ⟨(.value (.func 52)), #[(.tmp 5)], #[22]⟩), 27, none⟩,
      ⟨some 4, (.assign (.tmp 6)), 27, none⟩])
    (.seq (.reg [] [⟨some 7, (.move (.tmp 4)), 27, none⟩,
      ⟨some 8, (.binOp .neq 27 (.tmp 7) (.const (.int .i64 0)) 27), 4, none⟩])
    (.cond (.tmp 8)
    (.seq (.reg [] [⟨some 9, (.move (.tmp 4)), 27, none⟩,
      ⟨some 2, (.assign (.const (.slice none 0 0))), 22, none⟩,
      ⟨some 3, (.assign (.tmp 9)), 27, none⟩])
    .ret)
    .skip)))
    (.seq (.reg [] [⟨some 10, (.move (.tmp 0)), 22, none⟩,
      ⟨some 11, (.call ⟨(.value (.func 49)), #[(.tmp 10)], #[22]⟩), 22, none⟩,
      ⟨some 2, (.assign (.tmp 11)), 22, none⟩,
      ⟨some 3, (.assign (.const (.int .i64 0))), 27, none⟩])
    .ret)))
theorem C13 {args : List AV} {r : AV} (hn : args.length ≤ 12) (h : vc Try.prog T [] A13 (Fin T [(.tmp 2), (.tmp 3)] r) ⟨envOf 0 args, []⟩) : CallP Try.prog 13 args r :=
  callP_of tok mixed Try.func13 (by kernel_rfl) (by kernel_rfl) (by kernel_rfl : Try.f13.ntmps = 12) (by kernel_rfl : Try.f13.body.bind (strip 12 (fun _ => [])) = some A13) hn h
def A15 : ACode :=
  (.seq (.reg [] [⟨some 2, (.box 24 (.tmp 0)), 0, none⟩,
      ⟨some 4, (.assign (.const (.slice none 0 0))), 22, none⟩,
      ⟨some 5, (.assign (.const (.int .i64 0))), 27, none⟩])
    (.seq (.seq (.reg [] [⟨some 7, (.load 24 (.tmp 2)), 24, none⟩,
      ⟨some 8, (.move (.tmp 1)), 22, none⟩,
      ⟨some 9, (.call ⟨(.value (.func 42)), #[(.tmp 7), (.tmp 8)], #[24, 22]⟩), 27, none⟩,
      ⟨some 6, (.assign (.tmp 9)), 27, none⟩])
    (.seq (.reg [] [⟨some 10, (.move (.tmp 6)), 27, none⟩,
      ⟨some 11, (.binOp .neq 27 (.tmp 10) (.const (.int .i64 0)) 27), 4, none⟩])
    (.cond (.tmp 11)
    (.seq (.reg [] [⟨some 12, (.move (.tmp 6)), 27, none⟩,
      ⟨some 4, (.assign (.const (.slice none 0 0))), 22, none⟩,
      ⟨some 5, (.assign (.tmp 12)), 27, none⟩])
    .ret)
    .skip)))
    (.seq (.reg [] [⟨some 13, (.load 24 (.tmp 2)), 24, none⟩,
      ⟨some 14, (.move (.tmp 1)), 22, none⟩,
      ⟨some 15, (.call ⟨(.value (.func 54)), #[(.tmp 13), (.tmp 14)], #[24, 22]⟩), 22, none⟩,
      ⟨some 16, (.call ⟨(.value (.func 53)), #[(.tmp 15)], #[22]⟩), 28, none⟩,
      ⟨some 17, (.extract (.tmp 16) 0), 22, none⟩,
      ⟨some 18, (.extract (.tmp 16) 1), 27, none⟩,
      ⟨some 4, (.assign (.tmp 17)), 22, none⟩,
      ⟨some 5, (.assign (.tmp 18)), 27, none⟩])
    .ret)))
theorem C15 {args : List AV} {r : AV} (hn : args.length ≤ 19) (h : vc Try.prog T [] A15 (Fin T [(.tmp 4), (.tmp 5)] r) ⟨envOf 0 args, []⟩) : CallP Try.prog 15 args r :=
  callP_of tok mixed Try.func15 (by kernel_rfl) (by kernel_rfl) (by kernel_rfl : Try.f15.ntmps = 19) (by kernel_rfl : Try.f15.body.bind (strip 19 (fun _ => [])) = some A15) hn h
def A16 : ACode :=
  (.seq (.reg [] [⟨some 2, (.box 24 (.tmp 0)), 0, none⟩,
      ⟨some 4, (.assign (.const (.slice none 0 0))), 22, none⟩,
      ⟨some 5, (.assign (.const (.bool false))), 4, none⟩,
      ⟨some 6, (.assign (.const (.int .i64 0))), 27, none⟩])
    (.seq (.seq (.reg [] [⟨some 11, (.load 24 (.tmp 2)), 24, none⟩,
      ⟨some 12, (.move (.tmp 1)), 22, none⟩,
      ⟨some 13, (.call ⟨(.value (.func 42)), #[(.tmp 11), (.tmp 12)], #[24, 22]⟩), 27, none⟩,
      ⟨some 7, (.assign (.tmp 13)), 27, none⟩])
    (.seq (.reg [] [⟨some 14, (.move (.tmp 7)), 27, none⟩,
      ⟨some 15, (.binOp .neq 27 (.tmp 14) (.const (.int .i64 0)) 27), 4, none⟩])
    (.cond (.tmp 15)
    (.seq (.reg [] [⟨some 16, (.move (.tmp 7)), 27, none⟩,
      ⟨some 4, (.assign (.const (.slice none 0 0))), 22, none⟩,
      ⟨some 5, (.assign (.const (.bool false))), 4, none⟩,
      ⟨some 6, (.assign (.tmp 16)), 27, none⟩])
    .ret)
    .skip)))
    (.seq (.reg [] [⟨some 17, (.load 24 (.tmp 2)), 24, none⟩,
      ⟨some 18, (.move (.tmp 1)), 22, none⟩,
      ⟨some 19, (.call ⟨(.value (.func 43)), #[(.tmp 17), (.tmp 18)], #[24, 22]⟩), 22, none⟩,
      ⟨some 8, (.assign (.tmp 19)), 22, none⟩])
    (.seq (.seq (.reg [] [⟨some 20, (.move (.tmp 8)), 22, none⟩,
      ⟨some 21, (.call ⟨(.builtin .len), #[(.tmp 20)], #[22]⟩), 3, none⟩,
      ⟨some 22, (.binOp .eql 3 (.tmp 21) (.const (.int .i64 0)) 3), 4, none⟩])
    (.cond (.tmp 22)
    (.seq (.reg [] [⟨some 4, (.assign (.const (.slice none 0 0))), 22, none⟩,
      ⟨some 5, (.assign (.const (.bool false))), 4, none⟩,
      ⟨some 6, (.assign (.const (.int .i64 0))), 27, none⟩])
    .ret)
    .skip))
    (.seq (.draw [] [⟨some 24, (.load 24 (.tmp 2)), 24, none⟩,
      ⟨some 25, (.move (.tmp 1)), 22, none⟩,
      ⟨some 26, (.move (.tmp 8)), 22, none⟩,
      ⟨some 27, (.indexAddr 22 (.tmp 26) (.const (.int .i64 0))), 0, none⟩,
      ⟨some 28, (.load 3 (.tmp 27)), 3, none⟩,
      ⟨some 29, (.call ⟨(.value (.func 55)), #[(.tmp 24), (.tmp 25), (.tmp 28)], #[24, 22, 3]⟩), 22, none⟩,
      ⟨some 30, (.call ⟨(.value (.func 53)), #[(.tmp 29)], #[22]⟩), 28, none⟩,
      ⟨some 23, (.move (.tmp 30)), 28, none⟩,
      ⟨some 31, (.extract (.tmp 23) 0), 22, none⟩,
      ⟨some 32, (.extract (.tmp 23) 1), 27, none⟩,
      ⟨some 9, (.assign (.tmp 31)), 22, none⟩,
      ⟨some 10, (.assign (.tmp 32)), 27, none⟩] [(0, 1), (0, 2), (1, 2), (0, 3), (1, 3), (0, 4), (1, 4), (8, 9), (9, 10)])
    (.seq (.reg [] [⟨some 33, (.move (.tmp 9)), 22, none⟩,
      ⟨some 34, (.move (.tmp 10)), 27, none⟩,
      ⟨some 35, (.binOp .eql 27 (.tmp 34) (.const (.int .i64 0)) 27), 4, none⟩,
      ⟨some 36, (.move (.tmp 10)), 27, none⟩,
      ⟨some 4, (.assign (.tmp 33)), 22, none⟩,
      ⟨some 5, (.assign (.tmp 35)), 4, none⟩,
      ⟨some 6, (.assign (.tmp 36)), 27, none⟩])
    .ret))))))
theorem C16 {args : List AV} {r : AV} (hn : args.length ≤ 37) (h : vc Try.prog T [] A16 (Fin T [(.tmp 4), (.tmp 5), (.tmp 6)] r) ⟨envOf 0 args, []⟩) : CallP Try.prog 16 args r :=
  callP_of tok mixed Try.func16 (by kernel_rfl) (by kernel_rfl) (by kernel_rfl : Try.f16.ntmps = 37) (by kernel_rfl : Try.f16.body.bind (strip 37 (fun _ => [])) = some A16) hn h
def A44 : ACode :=
  (.seq (.reg [] [⟨some 2, (.assign (.const (.bool false))), 4, none⟩])
    (.seq (.reg [] [⟨some 3, (.move (.tmp 0)), 22, none⟩,
      ⟨some 4, (.call ⟨(.builtin .len), #[(.tmp 3)], #[22]⟩), 3, none⟩,
      ⟨some 5, (.binOp .gtr 3 (.tmp 4) (.const (.int .i64 100)) 3), 4, none⟩,
      ⟨some 2, (.assign (.tmp 5)), 4, none⟩])
    .ret))
theorem C44 {args : List AV} {r : AV} (hn : args.length ≤ 6) (h : vc Try.prog T [] A44 (Fin T [(.tmp 2)] r) ⟨envOf 0 args, []⟩) : CallP Try.prog 44 args r :=
  callP_of tok mixed Try.func44 (by kernel_rfl) (by kernel_rfl) (by kernel_rfl : Try.f44.ntmps = 6) (by kernel_rfl : Try.f44.body.bind (strip 6 (fun _ => [])) = some A44) hn h
def A49 : ACode :=
  (.seq (.reg [] [⟨some 2, (.assign (.const (.slice none 0 0))), 22, none⟩])
    (.seq (.reg [] [⟨some 4, (.move (.tmp 0)), 22, none⟩,
      ⟨some 5, (.call ⟨(.value (.func 50)), #[(.tmp 4)], #[22]⟩), 22, none⟩,
      ⟨some 3, (.assign (.tmp 5)), 22, none⟩])
    (.seq (.reg [] [⟨some 6, (.move (.tmp 3)), 22, none⟩,
      ⟨some 7, (.call ⟨(.value (.func 90)), #[(.tmp 6)], #[22]⟩), 0, none⟩])
    (.seq (.reg [] [⟨some 8, (.move (.tmp 3)), 22, none⟩,
      ⟨some 2, (.assign (.tmp 8)), 22, none⟩])
    .ret))))
theorem C49 {args : List AV} {r : AV} (hn : args.length ≤ 9) (h : vc Try.prog T [] A49 (Fin T [(.tmp 2)] r) ⟨envOf 0 args, []⟩) : CallP Try.prog 49 args r :=
  callP_of tok mixed Try.func49 (by kernel_rfl) (by kernel_rfl) (by kernel_rfl : Try.f49.ntmps = 9) (by kernel_rfl : Try.f49.body.bind (strip 9 (fun _ => [])) = some A49) hn h
def A51 : ACode :=
  (.seq (.reg [] [⟨some 2, (.box 24 (.tmp 0)), 0, none⟩,
      ⟨some 3, (.box 24 (.tmp 1)), 0, none⟩,
      ⟨some 4, (.assign (.const (.slice none 0 0))), 22, none⟩,
      ⟨some 5, (.assign (.const (.slice none 0 0))), 22, none⟩,
      ⟨some 6, (.assign (.const (.bool false))), 4, none⟩,
      ⟨some 7, (.assign (.const (.int .i64 0))), 27, none⟩])
    (.seq (.seq (.reg [] [⟨some 11, (.load 24 (.tmp 2)), 24, none⟩,
      ⟨some 12, (.load 24 (.tmp 3)), 24, none⟩,
      ⟨some 13, (.call ⟨(.value (.func 45)), #[(.tmp 11), (.tmp 12)], #[24, 24]⟩), 27, none⟩,
      ⟨some 8, (.assign (.tmp 13)), 27, none⟩])
    (.seq (.reg [] [⟨some 14, (.move (.tmp 8)), 27, none⟩,
      ⟨some 15, (.binOp .neq 27 (.tmp 14) (.const (.int .i64 0)) 27), 4, none⟩])
    (.cond (.tmp 15)
    (.seq (.reg [] [⟨some 16, (.move (.tmp 8)), 27, none⟩,
      ⟨some 4, (.assign (.const (.slice none 0 0))), 22, none⟩,
      ⟨some 5, (.assign (.const (.slice none 0 0))), 22, none⟩,
      ⟨some 6, (.assign (.const (.bool false))), 4, none⟩,
      ⟨some 7, (.assign (.tmp 16)), 27, none⟩])
    .ret)
    .skip)))
    (.seq (.reg [] [⟨some 18, (.load 24 (.tmp 2)), 24, none⟩,
      ⟨some 19, (.load 24 (.tmp 3)), 24, none⟩,
      ⟨some 20, (.call ⟨(.value (.func 46)), #[(.tmp 18), (.tmp 19)], #[24, 24]⟩), 77, none⟩,
      ⟨some 17, (.move (.tmp 20)), 77, none⟩,
      ⟨some 21, (.extract (.tmp 17) 0), 76, none⟩,
      ⟨some 22, (.extract (.tmp 17) 1), 76, none⟩,
      ⟨some 9, (.alloc 76), 0, none⟩,
      ⟨some 10, (.alloc 76), 0, none⟩,
      ⟨none, (.store 76 (.tmp 9) (.tmp 21)), 0, none⟩,
      ⟨none, (.store 76 (.tmp 10) (.tmp 22)), 0, none⟩])
    (.seq (.seq (.reg [] [⟨some 23, (.fieldAddr 24 (.tmp 2) 0), 0, none⟩,
      ⟨some 24, (.load 3 (.tmp 23)), 3, none⟩,
      ⟨some 25, (.fieldAddr 24 (.tmp 3) 0), 0, none⟩,
      ⟨some 26, (.load 3 (.tmp 25)), 3, none⟩,
      ⟨some 27, (.binOp .neq 3 (.tmp 24) (.tmp 26) 3), 4, none⟩,
      ⟨some 28, (.move (.tmp 27)), 4, none⟩,
      ⟨some 29, (.load 76 (.tmp 9)), 76, some (28, false)⟩,
      ⟨some 30, (.build 76 #[]), 76, some (28, false)⟩,
      ⟨some 31, (.binOp .eql 76 (.tmp 29) (.tmp 30) 76), 4, some (28, false)⟩,
      ⟨some 32, (.pick (.tmp 28) (.const (.bool true)) (.tmp 31)), 4, none⟩,
      ⟨some 33, (.move (.tmp 32)), 4, none⟩,
      ⟨some 34, (.load 76 (.tmp 10)), 76, some (33, false)⟩,
      ⟨some 35, (.build 76 #[]), 76, some (33, false)⟩,
      ⟨some 36, (.binOp .eql 76 (.tmp 34) (.tmp 35) 76), 4, some (33, false)⟩,
      ⟨some 37, (.pick (.tmp 33) (.const (.bool true)) (.tmp 36)), 4, none⟩])
    (.cond (.tmp 37)
    (.seq (.reg [] [⟨some 4, (.assign (.const (.slice none 0 0))), 22, none⟩,
      ⟨some 5, (.assign (.const (.slice none 0 0))), 22, none⟩,
      ⟨some 6, (.assign (.const (.bool false))), 4, none⟩,
      ⟨some 7, (.assign (.const (.int .i64 0))), 27, none⟩])
    .ret)
    .skip))
    (.seq (.draw [] [⟨some 38, (.load 76 (.tmp 9)), 76, none⟩,
      ⟨some 39, (.call ⟨(.value (.func 91)), #[(.tmp 38)], #[76]⟩), 22, none⟩,
      ⟨some 40, (.load 76 (.tmp 10)), 76, none⟩,
      ⟨some 41, (.call ⟨(.value (.func 91)), #[(.tmp 40)], #[76]⟩), 22, none⟩,
      ⟨some 4, (.assign (.tmp 39)), 22, none⟩,
      ⟨some 5, (.assign (.tmp 41)), 22, none⟩,
      ⟨some 6, (.assign (.const (.bool true))), 4, none⟩,
      ⟨some 7, (.assign (.const (.int .i64 0))), 27, none⟩] [(0, 2), (1, 2)])
    .ret)))))
theorem C51 {args : List AV} {r : AV} (hn : args.length ≤ 42) (h : vc Try.prog T [] A51 (Fin T [(.tmp 4), (.tmp 5), (.tmp 6), (.tmp 7)] r) ⟨envOf 0 args, []⟩) : CallP Try.prog 51 args r :=
  callP_of tok mixed Try.func51 (by kernel_rfl) (by kernel_rfl) (by kernel_rfl : Try.f51.ntmps = 42) (by kernel_rfl : Try.f51.body.bind (strip 42 (fun _ => [])) = some A51) hn h
def A90 : ACode :=
  (.seq (.reg [] [⟨some 4, (.move (.tmp 0)), 22, none⟩,
      ⟨some 5, (.call ⟨(.builtin .len), #[(.tmp 4)], #[22]⟩), 3, none⟩,
      ⟨some 6, (.binOp .sub 3 (.tmp 5) (.const (.int .i64 1)) 3), 3, none⟩,
      ⟨some 2, (.assign (.const (.int .i64 0))), 3, none⟩,
      ⟨some 3, (.assign (.tmp 6)), 3, none⟩])
    (.block 0 (.loop (.seq (.seq (.reg [] [⟨some 7, (.move (.tmp 2)), 3, none⟩,
      ⟨some 8, (.move (.tmp 3)), 3, none⟩,
      ⟨some 9, (.binOp .lss 3 (.tmp 7) (.tmp 8) 3), 4, none⟩])
    (.cond (.tmp 9)
    .skip
    (.exit 0)))
    (.seq (.block 1 (.draw [] [⟨some 14, (.move (.tmp 0)), 22, none⟩,
      ⟨some 15, (.move (.tmp 2)), 3, none⟩,
      ⟨some 16, (.move (.tmp 0)), 22, none⟩,
      ⟨some 17, (.move (.tmp 3)), 3, none⟩,
      ⟨some 18, (.move (.tmp 0)), 22, none⟩,
      ⟨some 19, (.move (.tmp 3)), 3, none⟩,
      ⟨some 20, (.indexAddr 22 (.tmp 18) (.tmp 19)), 0, none⟩,
      ⟨some 21, (.load 3 (.tmp 20)), 3, none⟩,
      ⟨some 22, (.move (.tmp 0)), 22, none⟩,
      ⟨some 23, (.move (.tmp 2)), 3, none⟩,
      ⟨some 24, (.indexAddr 22 (.tmp 22) (.tmp 23)), 0, none⟩,
      ⟨some 25, (.load 3 (.tmp 24)), 3, none⟩,
      ⟨some 26, (.indexAddr 22 (.tmp 14) (.tmp 15)), 0, none⟩,
      ⟨none, (.store 3 (.tmp 26) (.tmp 21)), 0, none⟩,
      ⟨some 27, (.indexAddr 22 (.tmp 16) (.tmp 17)), 0, none⟩,
      ⟨none, (.store 3 (.tmp 27) (.tmp 25)), 0, none⟩] [(0, 1), (0, 2), (1, 2), (0, 3), (1, 3), (2, 3), (0, 4), (1, 4), (2, 4), (3, 4), (0, 5), (1, 5), (2, 5), (3, 5), (4, 5), (0, 6), (1, 6), (2, 6), (3, 6), (0, 7), (1, 7), (2, 7), (3, 7), (0, 8), (1, 8), (2, 8), (3, 8), (4, 8), (5, 8), (6, 8), (7, 8), (0, 9), (1, 9), (2, 9), (3, 9), (4, 9), (5, 9), (6, 9), (7, 9), (8, 9), (0, 10), (1, 10), (2, 10), (3, 10), (4, 10), (5, 10), (6, 10), (7, 10), (0, 11), (1, 11), (2, 11), (3, 11), (4, 11), (5, 11), (6, 11), (7, 11), (2, 12), (3, 12), (2, 13), (3, 13)]))
    (.reg [] [⟨some 10, (.move (.tmp 2)), 3, none⟩,
      ⟨some 11, (.binOp .add 3 (.tmp 10) (.const (.int .i64 1)) 3), 3, none⟩,
      ⟨some 12, (.move (.tmp 3)), 3, none⟩,
      ⟨some 13, (.binOp .sub 3 (.tmp 12) (.const (.int .i64 1)) 3), 3, none⟩,
      ⟨some 2, (.assign (.tmp 11)), 3, none⟩,
      ⟨some 3, (.assign (.tmp 13)), 3, none⟩]))))))
theorem CL90 {pre suf : List AV} {sz : Nat} {els els' : List AV} {r : LRet} (hn : (pre ++ .sl lid 0 0 els.length :: suf).length ≤ 28) (h : vc Try.prog T [] A90 (FinL T [] sz r els') ⟨envOf 0 (pre ++ .sl lid 0 0 els.length :: suf), [(lid, some ⟨sz, els, 0, false⟩)]⟩) : CallL Try.prog 90 pre sz els suf r els' :=
  callL_of tok mixed Try.func90 (by kernel_rfl) (by kernel_rfl) (by kernel_rfl : Try.f90.ntmps = 28) (by kernel_rfl : Try.f90.body.bind (strip 28 (fun _ => [])) = some A90) hn h
def A91 : ACode :=
  (.seq (.reg [] [⟨some 1, (.box 76 (.tmp 0)), 0, none⟩,
      ⟨some 2, (.assign (.const (.slice none 0 0))), 22, none⟩])
    (.seq (.reg [] [⟨some 3, (.assign (.const (.slice none 0 0))), 22, none⟩])
    (.seq (.seq (.reg [] [⟨some 6, (.load 76 (.tmp 1)), 76, none⟩,
      ⟨some 7, (.move (.const (.int .i64 0))), 3, none⟩])
    (.block 0 (.loop (.seq (.reg [] [⟨some 8, (.binOp .lss 3 (.tmp 7) (.const (.int .i64 7)) 3), 0, none⟩])
    (.seq (.cond (.tmp 8)
    .skip
    (.exit 0))
    (.seq (.block 1 (.seq (.reg [] [⟨some 9, (.move (.tmp 7)), 3, none⟩,
      ⟨some 10, (.index 76 (.tmp 6) (.tmp 7)), 4, none⟩,
      ⟨some 4, (.assign (.tmp 9)), 3, none⟩,
      ⟨some 5, (.assign (.tmp 10)), 4, none⟩])
    (.seq (.reg [] [⟨some 11, (.move (.tmp 5)), 4, none⟩])
    (.cond (.tmp 11)
    (.reg [] [⟨some 12, (.move (.tmp 3)), 22, none⟩,
      ⟨some 13, (.move (.tmp 4)), 3, none⟩,
      ⟨some 14, (.binOp .sub 3 (.tmp 13) (.const (.int .i64 1)) 3), 3, none⟩,
      ⟨some 15, (.buildSlice 22 1 #[(0, (.tmp 14))]), 22, none⟩,
      ⟨some 16, (.call ⟨(.builtin .append), #[(.tmp 12), (.tmp 15)], #[22, 22]⟩), 22, none⟩,
      ⟨some 3, (.assign (.tmp 16)), 22, none⟩])
    .skip))))
    (.reg [] [⟨some 17, (.binOp .add 3 (.tmp 7) (.const (.int .i64 1)) 3), 3, none⟩,
      ⟨some 7, (.move (.tmp 17)), 3, none⟩])))))))
    (.seq (.reg [] [⟨some 18, (.move (.tmp 3)), 22, none⟩,
      ⟨some 2, (.assign (.tmp 18)), 22, none⟩])
    .ret))))
theorem C91 {args : List AV} {r : AV} (hn : args.length ≤ 19) (h : vc Try.prog T [] A91 (Fin T [(.tmp 2)] r) ⟨envOf 0 args, []⟩) : CallP Try.prog 91 args r :=
  callP_of tok mixed Try.func91 (by kernel_rfl) (by kernel_rfl) (by kernel_rfl : Try.f91.ntmps = 19) (by kernel_rfl : Try.f91.body.bind (strip 19 (fun _ => [])) = some A91) hn h

end Go.Proofs.Ytkhddecnllcaiaa
end

section
/- Plain: a rule at all its places, mirrored rules, rules that can meet (for TopRules). -/
namespace Go.Proofs.Ytkhddecnllcaiaa
open Go.Abs Go

/-! ### a rule at all its places, and mirrored -/
def allM (r : Rule) (w : List Int) : List Int := (placesM r w).foldr (fun i out => putW r out i.toNat) w
def mirM (r : Rule) : Rule := ⟨r.frm, r.to.reverse, r.right, r.left⟩
theorem mir_long (r : Rule) : long (mirM r) = long r := rfl
theorem long_one (r : Rule) : long r = 0 ∧ r.frm = -1 ∨ long r = 1 ∧ r.frm ≠ -1 := by
  unfold long
  by_cases h : r.frm = -1
  · exact .inl ⟨by rw [if_pos h], h⟩
  · exact .inr ⟨by rw [if_neg h], h⟩
theorem el_revI (w : List Int) (i : Nat) (h : i < w.length) : el w.reverse i = el w (w.length - 1 - i) := by
  have h1 : i < w.reverse.length := by simpa using h
  have h2 : w.length - 1 - i < w.length := by omega
  rw [el_eq _ i h1, el_eq _ _ h2, List.getElem_reverse]
theorem atW_rev (w : List Int) (j : Int) : atW w.reverse j = atW w ((w.length : Int) - 1 - j) := by
  unfold atW
  rw [List.length_reverse]
  by_cases h : 0 ≤ j ∧ j < w.length
  · rw [if_pos h, if_pos (by omega), el_revI w _ (by omega)]
    congr 1
    omega
  · rw [if_neg h, if_neg (by omega)]
theorem isAt_mir (r : Rule) (w : List Int) (i : Nat) (h : (i : Int) + long r ≤ w.length) : isAt (mirM r) w.reverse i = isAt r w (w.length - (long r).toNat - i) := by
  have hl := long_one r
  have e1 : ((w.length - (long r).toNat - i : Nat) : Int) = (w.length : Int) - long r - i := by omega
  have h1 : (decide ((mirM r).frm = -1) || decide (el w.reverse i = (mirM r).frm)) = (decide (r.frm = -1) || decide (el w (w.length - (long r).toNat - i) = r.frm)) := by
    show (decide (r.frm = -1) || decide (el w.reverse i = r.frm)) = _
    rcases hl with ⟨a, b⟩ | ⟨a, b⟩
    · simp [b]
    · rw [el_revI w i (by omega), show w.length - (long r).toNat - i = w.length - 1 - i by omega]
  have h2 : mayS (mirM r).left (atW w.reverse ((i : Int) - 1)) = mayS r.right (atW w (((w.length - (long r).toNat - i : Nat) : Int) + long r)) := by
    show mayS r.right (atW w.reverse ((i : Int) - 1)) = _
    rw [atW_rev]
    congr 2
    omega
  have h3 : mayS (mirM r).right (atW w.reverse ((i : Int) + long (mirM r))) = mayS r.left (atW w (((w.length - (long r).toNat - i : Nat) : Int) - 1)) := by
    show mayS r.left (atW w.reverse ((i : Int) + long r)) = _
    rw [atW_rev]
    congr 2
    omega
  unfold isAt
  rw [h1, h2, h3, Bool.and_assoc, Bool.and_assoc, Bool.and_comm (mayS r.right _)]
/-- What is put at a place. -/
def putAt (r : Rule) (w : List Int) (i : Nat) : List Int := if isAt r w i then r.to else []
def keepAt (r : Rule) (w : List Int) (i : Nat) : List Int := if (long r).toNat = 1 ∧ isAt r w i = true then [] else [el w i]
/-- The word behind place p (n places are left). -/
def restF (r : Rule) (w : List Int) : Nat → Nat → List Int
  | p, 0 => if (long r).toNat = 0 then putAt r w p else []
  | p, n + 1 => putAt r w p ++ (keepAt r w p ++ restF r w (p + 1) n)
theorem all_form (r : Rule) (w : List Int) : ∀ n p : Nat, p + n = w.length → (placesF r w p (n + 1 - (long r).toNat)).foldr (fun i out => putW r out i.toNat) w = w.take p ++ restF r w p n
  | 0, p, hp => by
    rcases long_one r with ⟨a, b⟩ | ⟨a, b⟩
    · have e : (long r).toNat = 0 := by omega
      rw [e, restF, if_pos e]
      simp only [Nat.zero_add, Nat.sub_zero, placesF, putAt]
      by_cases h : isAt r w p = true
      · rw [if_pos h, if_pos h]
        simp only [List.foldr, putW, Int.toNat_natCast, e, Nat.add_zero]
        rw [List.drop_eq_nil_of_le (by omega), List.append_nil]
      · rw [if_neg h, if_neg h]
        simp only [List.foldr, List.append_nil]
        rw [List.take_of_length_le (by omega)]
    · have e : (long r).toNat = 1 := by omega
      rw [e, restF, if_neg (by omega)]
      simp only [Nat.zero_add, Nat.sub_self, placesF, List.foldr, List.append_nil]
      rw [List.take_of_length_le (by omega)]
  | n + 1, p, hp => by
    have ih := all_form r w n (p + 1) (by omega)
    have hpl : p < w.length := by omega
    have hts : w.take (p + 1) = w.take p ++ [el w p] := take_succ w p hpl
    have hn : n + 1 + 1 - (long r).toNat = (n + 1 - (long r).toNat) + 1 := by
      rcases long_one r with ⟨a, b⟩ | ⟨a, b⟩ <;> omega
    rw [hn, placesF, restF]
    have htl : (w.take p).length = p := by rw [List.length_take]; omega
    by_cases h : isAt r w p = true
    · rw [if_pos h, List.foldr, ih, hts]
      unfold putAt keepAt
      rw [if_pos h]
      rcases long_one r with ⟨a, b⟩ | ⟨a, b⟩
      · have e : (long r).toNat = 0 := by omega
        rw [if_neg (by omega)]
        simp only [putW, Int.toNat_natCast, e, Nat.add_zero]
        have h3 : List.take p (List.take p w ++ [el w p] ++ restF r w (p + 1) n) = List.take p w := by
          rw [List.append_assoc, List.take_append_of_le_length (Nat.le_of_eq htl.symm), List.take_of_length_le (Nat.le_of_eq htl)]
        have h4 : List.drop p (List.take p w ++ [el w p] ++ restF r w (p + 1) n) = [el w p] ++ restF r w (p + 1) n := by
          rw [List.append_assoc, List.drop_append_of_le_length (Nat.le_of_eq htl.symm), List.drop_eq_nil_of_le (Nat.le_of_eq htl)]; rfl
        rw [h3, h4]
        simp
      · have e : (long r).toNat = 1 := by omega
        rw [if_pos ⟨e, h⟩]
        simp only [putW, Int.toNat_natCast, e]
        have h2 : (w.take p ++ [el w p]).length = p + 1 := by simp [htl]
        rw [List.take_append_of_le_length (by omega), List.take_append_of_le_length (by omega), List.take_of_length_le (by omega), List.drop_append_of_le_length (by omega), List.drop_eq_nil_of_le (by omega)]
        simp
    · rw [if_neg h, ih, hts]
      unfold putAt keepAt
      rw [if_neg h, if_neg (fun hh => h hh.2)]
      simp
theorem all_rest (r : Rule) (w : List Int) : allM r w = restF r w 0 w.length := by
  have := all_form r w w.length 0 (by omega)
  simpa [allM, placesM] using this
/-- The word in front of place p. -/
def preF (r : Rule) (w : List Int) : Nat → List Int
  | 0 => []
  | p + 1 => preF r w p ++ (putAt r w p ++ keepAt r w p)
theorem pre_rest (r : Rule) (w : List Int) : ∀ n p : Nat, preF r w p ++ restF r w p n = preF r w (p + n) ++ (if (long r).toNat = 0 then putAt r w (p + n) else [])
  | 0, p => rfl
  | n + 1, p => by
    have := pre_rest r w n (p + 1)
    rw [restF, show p + (n + 1) = p + 1 + n by omega, ← this, preF]
    simp
theorem putAt_mir (r : Rule) (w : List Int) (i : Nat) (h : (i : Int) + long r ≤ w.length) : putAt (mirM r) w.reverse i = (putAt r w (w.length - (long r).toNat - i)).reverse := by
  unfold putAt
  rw [isAt_mir r w i h]
  split
  · rfl
  · rfl
theorem keepAt_mir (r : Rule) (w : List Int) (i : Nat) (h : i < w.length) : keepAt (mirM r) w.reverse i = (keepAt r w (w.length - 1 - i)).reverse := by
  unfold keepAt
  rw [mir_long, el_revI w i h]
  rcases long_one r with ⟨a, b⟩ | ⟨a, b⟩
  · rw [if_neg (by omega), if_neg (by omega)]; rfl
  · have e : (long r).toNat = 1 := by omega
    rw [isAt_mir r w i (by omega), e]
    split <;> rfl
theorem mir_rest (r : Rule) (w : List Int) : ∀ p : Nat, p ≤ w.length → restF (mirM r) w.reverse (w.length - p) p = (preF r w p ++ (if (long r).toNat = 0 then putAt r w p else [])).reverse
  | 0, _ => by
    rw [restF, mir_long]
    by_cases e : (long r).toNat = 0
    · rw [if_pos e, if_pos e, putAt_mir r w _ (by omega)]
      simp [preF, e]
    · rw [if_neg e, if_neg e]; rfl
  | p + 1, hp => by
    have ih := mir_rest r w p (by omega)
    rw [restF, show w.length - (p + 1) + 1 = w.length - p by omega, ih, keepAt_mir r w _ (by omega), show w.length - 1 - (w.length - (p + 1)) = p by omega, preF]
    rcases long_one r with ⟨a, b⟩ | ⟨a, b⟩
    · have e : (long r).toNat = 0 := by omega
      rw [if_pos e, if_pos e, putAt_mir r w _ (by omega), e, show w.length - 0 - (w.length - (p + 1)) = p + 1 by omega]
      simp
    · have e : (long r).toNat = 1 := by omega
      rw [if_neg (by omega), if_neg (by omega), putAt_mir r w _ (by omega), e, show w.length - 1 - (w.length - (p + 1)) = p by omega]
      unfold putAt keepAt
      by_cases h : isAt r w p = true
      · rw [if_pos h, if_pos ⟨e, h⟩]; simp
      · rw [if_neg h, if_neg (fun hh => h hh.2)]; simp
theorem all_mir (r : Rule) (w : List Int) : allM (mirM r) w.reverse = (allM r w).reverse := by
  rw [all_rest, all_rest, List.length_reverse]
  have h1 := mir_rest r w w.length (Nat.le_refl _)
  have h2 := pre_rest r w w.length 0
  rw [Nat.sub_self] at h1
  rw [Nat.zero_add] at h2
  rw [h1, ← h2]
  simp [preF]
theorem rest_len (r : Rule) (w : List Int) : ∀ n p : Nat, ((restF r w p n).length : Int) = n + ((r.to.length : Int) - long r) * (placesF r w p (n + 1 - (long r).toNat)).length
  | 0, p => by
    rw [restF]
    rcases long_one r with ⟨a, b⟩ | ⟨a, b⟩
    · have e : (long r).toNat = 0 := by omega
      rw [if_pos e, e, a]
      simp only [Nat.zero_add, Nat.sub_zero, placesF, putAt]
      split <;> simp
    · have e : (long r).toNat = 1 := by omega
      rw [if_neg (by omega), e]
      simp [placesF]
  | n + 1, p => by
    have ih := rest_len r w n (p + 1)
    have hn : n + 1 + 1 - (long r).toNat = (n + 1 - (long r).toNat) + 1 := by
      rcases long_one r with ⟨a, b⟩ | ⟨a, b⟩ <;> omega
    rw [restF, hn, placesF, List.length_append, List.length_append]
    generalize restF r w (p + 1) n = R at *
    generalize placesF r w (p + 1) (n + 1 - (long r).toNat) = L at *
    unfold putAt keepAt
    by_cases h : isAt r w p = true
    · rw [if_pos h, if_pos h, List.length_cons]
      rcases long_one r with ⟨a, b⟩ | ⟨a, b⟩
      · rw [if_neg (by omega)]
        rw [a] at ih ⊢
        simp only [List.length_cons, List.length_nil, Int.sub_zero] at ih ⊢
        have : ((r.to.length : Int)) * ((L.length + 1 : Nat) : Int) = (r.to.length : Int) * L.length + r.to.length := by
          rw [Int.natCast_add, Int.mul_add]; simp
        rw [this]
        omega
      · have e : (long r).toNat = 1 := by omega
        rw [if_pos ⟨e, h⟩]
        rw [a] at ih ⊢
        simp only [List.length_nil] at ih ⊢
        have : ((r.to.length : Int) - 1) * ((L.length + 1 : Nat) : Int) = ((r.to.length : Int) - 1) * L.length + ((r.to.length : Int) - 1) := by
          rw [Int.natCast_add, Int.mul_add]; simp
        rw [this]
        omega
    · rw [if_neg h, if_neg h, if_neg (fun hh => h hh.2)]
      simp only [List.length_cons, List.length_nil]
      omega
theorem all_len (r : Rule) (w : List Int) : ((allM r w).length : Int) = w.length + ((r.to.length : Int) - long r) * (placesM r w).length := by
  rw [all_rest, rest_len]; rfl
/-! ### mirrored rules; special ones; rules that can meet -/
theorem rev_one (l : List Int) (x : Int) : l.reverse = [x] ↔ l = [x] := by
  constructor
  · intro h
    have := congrArg List.reverse h
    simpa using this
  · intro h; rw [h]; rfl
theorem any_rev (f : Int → Bool) (l : List Int) : l.reverse.any f = l.any f := by
  rw [Bool.eq_iff_iff, List.any_eq_true, List.any_eq_true]
  simp only [List.mem_reverse]
theorem mir_err (r : Rule) : ruleErr (mirM r) = ruleErr r := by
  unfold ruleErr mirM
  dsimp only
  rw [List.length_reverse, any_rev]
  have h1 : decide (r.to.reverse = [r.frm]) = decide (r.to = [r.frm]) := by
    rw [Bool.eq_iff_iff, decide_eq_true_eq, decide_eq_true_eq]
    exact rev_one _ _
  rw [h1]
  have h2 : (r.to.any (fun x => !isSound x) || !setF none r.right || !setF none r.left) = (r.to.any (fun x => !isSound x) || !setF none r.left || !setF none r.right) := by
    rw [Bool.or_assoc, Bool.or_assoc, Bool.or_comm (!setF none r.right)]
  rw [h2]
theorem mir_two (r s : Rule) : twoErr (mirM r) (mirM s) = twoErr r s := by
  unfold twoErr; rw [mir_err, mir_err]
theorem mir_spec (r s : Rule) : specM (mirM r) (mirM s) = specM r s := by
  unfold specM
  rw [mir_two]
  show (_ && (decide (r.frm = s.frm) && (insideM r.right s.right && insideM r.left s.left))) = _
  rw [Bool.and_comm (insideM r.right s.right)]
theorem rev_err (w : List Int) : wordErr w.reverse = wordErr w := by
  unfold wordErr
  rw [List.length_reverse, any_rev]
/-- Have two sets of neighbours one in common? -/
def someM (a b : List Int) : Bool := mayAll.any fun n => mayS a n && mayS b n
def meetM (r s : Rule) : Bool := decide (r.frm = s.frm) && (someM r.left s.left && someM r.right s.right)
theorem mem_mayAll (n : Int) : n ∈ mayAll ↔ -1 ≤ n ∧ n ≤ 5 := by
  simp only [mayAll, List.mem_cons, List.not_mem_nil, or_false]
  omega
theorem setF_mem : ∀ (l : List Int) (p : Option Int), setF p l = true → ∀ x ∈ l, -1 ≤ x ∧ x ≤ 5
  | [], _, _, x, hx => by cases hx
  | y :: l, p, h, x, hx => by
    rw [setF_cons, Bool.and_eq_true, Bool.and_eq_true] at h
    rcases List.mem_cons.1 hx with rfl | hx
    · have := h.1.1
      simp [isNeighbor, isSound] at this
      omega
    · exact setF_mem l _ h.2 x hx
theorem some_may {a : List Int} (h : setF none a = true) : ∃ n ∈ mayAll, mayS a n = true := by
  cases a with
  | nil => exact ⟨0, by decide, by simp [mayS]⟩
  | cons x l =>
    refine ⟨x, (mem_mayAll x).2 (setF_mem _ _ h x (by simp)), ?_⟩
    unfold mayS
    rw [Bool.or_eq_true, List.any_eq_true]
    exact .inr ⟨x, by simp, by simp⟩
theorem inside_may {a b : List Int} (h : insideM a b = true) {n : Int} (hn : -1 ≤ n ∧ n ≤ 5) (ha : mayS a n = true) : mayS b n = true := by
  have := List.all_eq_true.1 h n ((mem_mayAll n).2 hn)
  simpa [ha] using this
theorem some_of_inside {a b : List Int} (hs : setF none a = true) (h : insideM a b = true) : someM a b = true := by
  obtain ⟨n, hn, ha⟩ := some_may hs
  exact List.any_eq_true.2 ⟨n, hn, by rw [ha, inside_may h ((mem_mayAll n).1 hn) ha]; rfl⟩
theorem ruleErr_sets {r : Rule} (h : ruleErr r = 0) : setF none r.left = true ∧ setF none r.right = true := by
  unfold ruleErr at h
  split at h
  · cases h
  · split at h
    · cases h
    · split at h
      · cases h
      · rename_i h3
        simp only [Bool.or_eq_true, not_or, Bool.not_eq_true', Bool.not_eq_false] at h3
        exact ⟨h3.1.2, h3.2⟩
theorem spec_meet {r s : Rule} (h : specM r s = true) : meetM r s = true := by
  unfold specM at h
  simp only [Bool.and_eq_true, decide_eq_true_eq] at h
  obtain ⟨h1, h2, h3, h4⟩ := h
  have hr : ruleErr r = 0 := by
    unfold twoErr at h1
    split at h1
    · exact h1
    · rename_i h5; simpa using h5
  obtain ⟨h5, h6⟩ := ruleErr_sets hr
  unfold meetM
  rw [decide_eq_true h2, some_of_inside h5 h3, some_of_inside h6 h4]
  rfl
theorem mem_placesF (r : Rule) (w : List Int) (x : Int) : ∀ n i : Nat, x ∈ placesF r w i n ↔ ∃ j : Nat, x = (j : Int) ∧ i ≤ j ∧ j < i + n ∧ isAt r w j = true
  | 0, i => by
    simp only [placesF, List.not_mem_nil, false_iff]
    rintro ⟨j, _, h1, h2, _⟩
    omega
  | n + 1, i => by
    have ih := mem_placesF r w x n (i + 1)
    rw [placesF]
    constructor
    · intro h
      by_cases ha : isAt r w i = true
      · rw [if_pos ha] at h
        rcases List.mem_cons.1 h with h | h
        · exact ⟨i, h, Nat.le_refl _, by omega, ha⟩
        · obtain ⟨j, h1, h2, h3, h4⟩ := ih.1 h
          exact ⟨j, h1, by omega, by omega, h4⟩
      · rw [if_neg ha] at h
        obtain ⟨j, h1, h2, h3, h4⟩ := ih.1 h
        exact ⟨j, h1, by omega, by omega, h4⟩
    · rintro ⟨j, h1, h2, h3, h4⟩
      by_cases e : j = i
      · subst e
        rw [if_pos h4, h1]
        simp
      · have := ih.2 ⟨j, h1, by omega, by omega, h4⟩
        split
        · exact List.mem_cons_of_mem _ this
        · exact this
theorem isAt_sides {r : Rule} {w : List Int} {i : Nat} (h : isAt r w i = true) : mayS r.left (atW w ((i : Int) - 1)) = true ∧ mayS r.right (atW w ((i : Int) + long r)) = true := by
  unfold isAt at h
  simp only [Bool.and_eq_true] at h
  exact ⟨h.1.2, h.2⟩
theorem long_frm {r s : Rule} (h : r.frm = s.frm) : long r = long s := by unfold long; rw [h]
theorem places_spec {r s : Rule} {w : List Int} (hw : w.all isSound = true) (h : specM r s = true) : ∀ x ∈ placesM r w, x ∈ placesM s w := by
  intro x hx
  unfold specM at h
  simp only [Bool.and_eq_true, decide_eq_true_eq] at h
  obtain ⟨h1, h2, h3, h4⟩ := h
  obtain ⟨j, e, j1, j2, j3⟩ := (mem_placesF r w x _ _).1 hx
  refine (mem_placesF s w x _ _).2 ⟨j, e, j1, by rw [← long_frm h2]; exact j2, ?_⟩
  obtain ⟨k1, k2⟩ := isAt_sides j3
  have k3 := inside_may h3 (atW_range w hw _) k1
  have k4 := inside_may h4 (atW_range w hw _) k2
  unfold isAt at j3 ⊢
  simp only [Bool.and_eq_true] at j3 ⊢
  rw [← long_frm h2, ← h2]
  exact ⟨⟨j3.1.1, k3⟩, k4⟩
theorem places_meet {r s : Rule} {w : List Int} (hw : w.all isSound = true) (hf : r.frm = s.frm) {x : Int} (hr : x ∈ placesM r w) (hs : x ∈ placesM s w) : meetM r s = true := by
  obtain ⟨j, e, j1, j2, j3⟩ := (mem_placesF r w x _ _).1 hr
  obtain ⟨j', e', j1', j2', j3'⟩ := (mem_placesF s w x _ _).1 hs
  have ej : j = j' := by omega
  subst ej
  obtain ⟨k1, k2⟩ := isAt_sides j3
  obtain ⟨k3, k4⟩ := isAt_sides j3'
  rw [← long_frm hf] at k4
  unfold meetM someM
  rw [decide_eq_true hf, List.any_eq_true.2 ⟨_, (mem_mayAll _).2 (atW_range w hw _), by rw [k1, k3]; rfl⟩, List.any_eq_true.2 ⟨_, (mem_mayAll _).2 (atW_range w hw _), by rw [k2, k4]; rfl⟩]
  rfl
/-- The first place. -/
theorem place_first {r : Rule} {w : List Int} (h : placesM r w ≠ []) : ∃ j : Nat, el (placesM r w) 0 = (j : Int) ∧ (j : Int) + long r ≤ w.length := by
  have hm : el (placesM r w) 0 ∈ placesM r w := by
    cases hp : placesM r w with
    | nil => exact absurd hp h
    | cons a l => exact List.mem_cons_self ..
  obtain ⟨j, e, _, j2, _⟩ := (mem_placesF r w _ _ _).1 hm
  refine ⟨j, e, ?_⟩
  rcases long_one r with ⟨a, b⟩ | ⟨a, b⟩ <;> omega
theorem put_len (r : Rule) (w : List Int) (i : Nat) (h : (i : Int) + long r ≤ w.length) : ((putW r w i).length : Int) = w.length + ((r.to.length : Int) - long r) := by
  unfold putW
  rw [List.length_append, List.length_append, List.length_take, List.length_drop]
  rcases long_one r with ⟨a, b⟩ | ⟨a, b⟩ <;> omega
end Go.Proofs.Ytkhddecnllcaiaa
end

section
/- Contracts: mirrored rules and words, rules that can meet, the first place (for TopRules). -/
namespace Go.Proofs.Ytkhddecnllcaiaa
open Go.Abs Go
set_option maxRecDepth 20000
set_option maxHeartbeats 2000000
attribute [local irreducible] PreK CondK CallK CallG CallX LoopK
attribute [local simp] avsEq avEq akind teq vkind vEq
attribute [simp] T_25 T_26

theorem el_setI (o : List Int) (i k : Nat) (v : Int) (hi : i < o.length) : el (o.set i v) k = if i = k then v else el o k := by
  unfold el
  rw [List.getD_eq_getElem?_getD, List.getD_eq_getElem?_getD, List.getElem?_set]
  split
  · rename_i e; subst e; simp [hi]
  · rfl
theorem ext_elI {a b : List Int} (hl : a.length = b.length) (h : ∀ q, q < a.length → el a q = el b q) : a = b := by
  apply List.ext_getElem hl
  intro i h1 h2
  have := h i h1
  rwa [el_eq _ _ h1, el_eq _ _ h2] at this
theorem reverseI_L (l : List Int) (hl : l.length ≤ 1000) : CallL Try.prog 90 [] 1 (l.map iv) [] (.val (.tup [])) (l.reverse.map iv) := by
  refine CL90 (by simp) ?_
  simp [A90]
  try simp 
  repeat (refine PreK.intro (by first | omega | (intros; first | omega | (refine ⟨by omega, ?_⟩; simp_all; done) | (simp_all; done) | (simp_all; omega))) fun _ => ?_; (try simp ))
  refine LoopK.by (ι := Nat × List Int) (fun x => ⟨[(2, iv x.1), (3, iv ((l.length : Int) - 1 - x.1)), (0, .sl lid 0 0 l.length)], [(lid, some ⟨1, x.2.map iv, 0, false⟩)]⟩) (fun x => l.length - x.1)
    (fun x => x.1 ≤ l.length ∧ x.2.length = l.length ∧ 2 * x.1 ≤ l.length + 1 ∧ ∀ q, q < l.length → el x.2 q = if q < x.1 ∨ l.length ≤ q + x.1 then el l (l.length - 1 - q) else el l q) (0, l) ⟨by simp, rfl, by simp, fun q hq => by dsimp only; rw [if_neg (by omega)]⟩ (by simp) ?_
  intro ⟨i, c⟩ Q' ⟨hi, hcl, h2i, hce⟩ hq he hr
  dsimp only at hi hcl h2i hce
  try simp 
  refine CondK.intro (fun h1 => ?_) (fun h1 => ?_)
  · simp at h1
    have g1 : i < c.length := by omega
    have g2 : l.length - 1 - i < c.length := by omega
    have e0 : ((l.length : Int) - 1 - i).toNat = l.length - 1 - i := by omega
    have e1 : (0 : Int) ≤ (l.length : Int) - 1 - i := by omega
    have e2 : (l.length : Int) - 1 - i < c.length := by omega
    have g1l : i < l.length := by omega
    have g2l : l.length - 1 - i < l.length := by omega
    have d1 := hce i (by omega)
    have d2 := hce (l.length - 1 - i) (by omega)
    rw [if_neg (by omega)] at d1 d2
    have e3 : nth ((c.map iv).set i (iv (el c (l.length - 1 - i)))) (l.length - 1 - i) = iv (el c (l.length - 1 - i)) := by
      rw [← List.map_set, nth_map _ _ _ (by simpa using g2), el_setI _ _ _ _ g1, if_neg (by omega)]
    simp only [iv] at e3
    try simp [g1, g2, g1l, g2l, e0, e1, e2, hcl, e3]
    repeat (refine PreK.intro (by first | omega | (intros; first | omega | (refine ⟨by omega, ?_⟩; simp_all; done) | (simp_all; done) | (simp_all; omega))) fun _ => ?_; (try simp [g1, g2, g1l, g2l, e0, e1, e2, hcl, e3]))
    try simp [g1, g2, g1l, g2l, e0, e1, e2, hcl, e3]
    repeat (refine PreK.intro (by first | omega | (intros; first | omega | (refine ⟨by omega, ?_⟩; simp_all; done) | (simp_all; done) | (simp_all; omega))) fun _ => ?_; (try simp [g1, g2, g1l, g2l, e0, e1, e2, hcl, e3]))
    refine hq (i + 1, (c.set i (el c (l.length - 1 - i))).set (l.length - 1 - i) (el c i)) _ ⟨by dsimp only; omega, by simpa using hcl, by dsimp only; omega, fun q hq2 => ?_⟩ (by dsimp only; omega) ?_
    · dsimp only
      rw [el_setI _ _ _ _ (by simpa using g2), el_setI _ _ _ _ g1]
      by_cases h3 : l.length - 1 - i = q
      · rw [if_pos h3, if_pos (by omega), d1]
        congr 1; omega
      · rw [if_neg h3]
        by_cases h4 : i = q
        · rw [if_pos h4, if_pos (by omega), d2]
          congr 1; omega
        · rw [if_neg h4, hce q hq2]
          by_cases h5 : q < i ∨ l.length ≤ q + i
          · rw [if_pos h5, if_pos (by omega)]
          · rw [if_neg h5, if_neg (by omega)]
    · simp [hcl, g1, g2, g1l, g2l, e0, List.map_set]
      omega
  · simp at h1
    have hcr : c = l.reverse := by
      refine ext_elI (by simp [hcl]) fun q hq2 => ?_
      rw [hce q (by omega), el_revI l q (by omega)]
      split
      · rfl
      · congr 1; omega
    subst hcr
    try simp 
    apply he
    try simp 
    repeat' (first
      | ((with_reducible refine PreK.intro ?_ ?_); (next => (first | omega | (intros; first | omega | (refine ⟨by omega, ?_⟩; repeat (first | assumption | constructor)) | assumption))); intro _; try simp )
      | fail)
theorem back_c (l : List Int) (hl : l.length ≤ 1000) : CallP Try.prog 49 [ints l] (ints l.reverse) := by
  refine C49 (by simp) ?_
  have hr := reverseI_L l hl
  simp [A49]
  try simp 
  repeat (refine PreK.intro (by first | omega | (intros; first | omega | (refine ⟨by omega, ?_⟩; simp_all; done) | (simp_all; done) | (simp_all; omega))) fun _ => ?_; (try simp ))
  refine CallX.own (by simpa using clone_o l hl) (by simp) (by simp) ?_
  try simp 
  repeat (refine PreK.intro (by first | omega | (intros; first | omega | (refine ⟨by omega, ?_⟩; simp_all; done) | (simp_all; done) | (simp_all; omega))) fun _ => ?_; (try simp ))
  refine CallX.lend [] (id := 5) (ver := 1) (n := l.length) (b := ⟨1, l.map iv, 1, false⟩) [] (.val (.tup [])) _ (by simp) (by simp) (by simp) (by simp) (by simp) (by simp) (by simp) (by simpa using hr) ?_
  try simp 
  repeat (refine PreK.intro (by first | omega | (intros; first | omega | (refine ⟨by omega, ?_⟩; simp_all; done) | (simp_all; done) | (simp_all; omega))) fun _ => ?_; (try simp ))
  have htk : List.take l.length (List.map iv l).reverse = (List.map iv l).reverse := List.take_of_length_le (by simp)
  simp [htk]
theorem CallO.toP {P : Program} {f : FuncId} {args : List AV} {sz : Nat} {els : List AV} (h : CallO P f args sz els) : CallP P f args (.seq sz els false) := by
  refine ⟨h.1, fun w X vs hX hlen hargs => Calls.mono (h.2 w X vs hX hlen hargs) ?_⟩
  rintro e w' ⟨v, rfl, hg, ho⟩
  refine ⟨_, rfl, hg, ?_⟩
  rcases ho with ⟨rfl, p, rfl⟩ | ⟨g, base, cap, c, el, rfl, _, hge, hw, hcap, hfit, hbig, h1, hr⟩
  · exact .nil
  · have hx : ¬ X g := fun hx => by have := hX g hx; omega
    have hm : els.length * sz ≤ cap * sz := Nat.mul_le_mul_right _ hcap
    refine .seq hx hw hcap (fun h => by cases h) hbig (by omega) (fun i hi => (hr i hi).1) (fun j _ hj => h1 j (by omega)) fun i hi => ?_
    exact (hr i hi).2.mono (fun q hq _ => ⟨fun hy => hq (.inl hy), rfl⟩) (Mu.later.refl _)
theorem clone_p (l : List Int) (hl : l.length ≤ 1000) : CallP Try.prog 50 [ints l] (ints l) := CallO.toP (clone_o l hl)
theorem Back_c (w : List Int) (hw : w.length ≤ 1000) : CallP Try.prog 13 [ints w] (.tup [ints (if wordErr w ≠ 0 then [] else w.reverse), iv (wordErr w)]) := by
  refine C13 (by simp) ?_
  simp [A13]
  try simp 
  repeat' (first
    | (refine CallX.pure (validateWord_c w (big_of hw)) (by simp) (by simp) ?_; try simp )
    | (refine CallK.intro (validateWord_c w (big_of hw)) (by simp) (by simp) ?_; try simp )
    | (refine CallG.intro (fun _ => validateWord_c w (big_of hw)) (by simp) (by simp) ?_; try simp )
    | ((with_reducible refine PreK.intro ?_ ?_); (next => (first | omega | (intros; first | omega | (refine ⟨by omega, ?_⟩; repeat (first | assumption | constructor)) | assumption))); intro _; try simp )
    | fail)
  refine CondK.intro (fun h1 => ?_) (fun h1 => ?_)
  · simp at h1
    try simp [h1]
    repeat (refine PreK.intro (by first | omega | (intros; first | omega | (refine ⟨by omega, ?_⟩; simp_all; done) | (simp_all; done) | (simp_all; omega))) fun _ => ?_; (try simp [h1]))
  · simp at h1
    try simp 
    repeat' (first
      | (refine CallX.pure (back_c w hw) (by simp) (by simp) ?_; try simp )
      | (refine CallK.intro (back_c w hw) (by simp) (by simp) ?_; try simp )
      | (refine CallG.intro (fun _ => back_c w hw) (by simp) (by simp) ?_; try simp )
      | ((with_reducible refine PreK.intro ?_ ?_); (next => (first | omega | (intros; first | omega | (refine ⟨by omega, ?_⟩; repeat (first | assumption | constructor)) | assumption))); intro _; try simp )
      | fail)
    try simp [h1]
    repeat (refine PreK.intro (by first | omega | (intros; first | omega | (refine ⟨by omega, ?_⟩; simp_all; done) | (simp_all; done) | (simp_all; omega))) fun _ => ?_; (try simp [h1]))
def MirR (r : Rule) : Rule × Int := if ruleErr r ≠ 0 then (⟨0, [], [], []⟩, ruleErr r) else (mirM r, 0)
theorem Mirror_c (r : Rule) (h : r.small) : CallP Try.prog 11 [ruleV r] (.tup [ruleV (MirR r).1, iv (MirR r).2]) := by
  refine C11 (by simp) ?_
  generalize hR : MirR r = R
  unfold MirR at hR
  simp [A11]
  try simp 
  repeat' (first
    | (refine CallX.pure (validate_s h) (by simp) (by simp) ?_; try simp )
    | (refine CallK.intro (validate_s h) (by simp) (by simp) ?_; try simp )
    | (refine CallG.intro (fun _ => validate_s h) (by simp) (by simp) ?_; try simp )
    | ((with_reducible refine PreK.intro ?_ ?_); (next => (first | omega | (intros; first | omega | (refine ⟨by omega, ?_⟩; repeat (first | assumption | constructor)) | assumption))); intro _; try simp )
    | fail)
  by_cases h1 : ruleErr r = 0
  · rw [if_neg (by simpa using h1)] at hR
    subst hR
    try simp [h1]
    repeat (refine PreK.intro (by first | omega | (intros; first | omega | (refine ⟨by omega, ?_⟩; simp_all; done) | (simp_all; done) | (simp_all; omega))) fun _ => ?_; (try simp [h1]))
    refine CondK.ff ?_
    try simp 
    try simp 
    repeat (refine PreK.intro (by first | omega | (intros; first | omega | (refine ⟨by omega, ?_⟩; simp_all; done) | (simp_all; done) | (simp_all; omega))) fun _ => ?_; (try simp ))
    try simp 
    repeat' (first
      | (refine CallX.pure (back_c r.to h.1) (by simp) (by simp) ?_; try simp )
      | (refine CallK.intro (back_c r.to h.1) (by simp) (by simp) ?_; try simp )
      | (refine CallG.intro (fun _ => back_c r.to h.1) (by simp) (by simp) ?_; try simp )
      | (refine CallX.pure (clone_p r.right h.2.2) (by simp) (by simp) ?_; try simp )
      | (refine CallK.intro (clone_p r.right h.2.2) (by simp) (by simp) ?_; try simp )
      | (refine CallG.intro (fun _ => clone_p r.right h.2.2) (by simp) (by simp) ?_; try simp )
      | (refine CallX.pure (clone_p r.left h.2.1) (by simp) (by simp) ?_; try simp )
      | (refine CallK.intro (clone_p r.left h.2.1) (by simp) (by simp) ?_; try simp )
      | (refine CallG.intro (fun _ => clone_p r.left h.2.1) (by simp) (by simp) ?_; try simp )
      | ((with_reducible refine PreK.intro ?_ ?_); (next => (first | omega | (intros; first | omega | (refine ⟨by omega, ?_⟩; repeat (first | assumption | constructor)) | assumption))); intro _; try simp )
      | fail)
    simp [mirM]
    done
  · rw [if_pos h1] at hR
    subst hR
    try simp [h1]
    repeat (refine PreK.intro (by first | omega | (intros; first | omega | (refine ⟨by omega, ?_⟩; simp_all; done) | (simp_all; done) | (simp_all; omega))) fun _ => ?_; (try simp [h1]))
    refine CondK.tt ?_
    try simp 
    try simp 
    repeat (refine PreK.intro (by first | omega | (intros; first | omega | (refine ⟨by omega, ?_⟩; simp_all; done) | (simp_all; done) | (simp_all; omega))) fun _ => ?_; (try simp ))
/-! ### sets -/
def setG : Nat → List Bool → List Int
  | _, [] => []
  | i, b :: r => if b then ((i : Int) - 1) :: setG (i + 1) r else setG (i + 1) r
theorem set_c (b0 b1 b2 b3 b4 b5 b6 : Bool) : CallP Try.prog 91 [sideV [b0, b1, b2, b3, b4, b5, b6]] (ints (setG 0 [b0, b1, b2, b3, b4, b5, b6])) := by
  refine C91 (by simp) ?_
  generalize hl : [b0, b1, b2, b3, b4, b5, b6] = l
  have hln : l.length = 7 := by rw [← hl]; rfl
  have htk : List.take 7 (List.map bv l) = List.map bv l := List.take_of_length_le (by simp [hln])
  generalize hR : setG 0 l = R
  simp [A91]
  try simp 
  repeat (refine PreK.intro (by first | omega | (intros; first | omega | (refine ⟨by omega, ?_⟩; simp_all; done) | (simp_all; done) | (simp_all; omega))) fun _ => ?_; (try simp ))
  refine LoopK.by (ι := Nat × Nat × List Int) (fun x => ⟨[(7, iv x.1), (6, sideV l), (3, .sl 3 x.2.1 0 x.2.2.length)], [(3, some ⟨1, x.2.2.map iv, x.2.1, false⟩)]⟩) (fun x => 7 - x.1)
    (fun x => x.1 ≤ 7 ∧ x.2.2.length ≤ x.1 ∧ x.2.2 ++ setG x.1 (l.drop x.1) = R) (0, 1, []) ⟨by simp, by simp, by simpa using hR⟩ (by simp [htk, hln]) ?_
  intro ⟨i, v, acc⟩ Q' ⟨hi, hal, hc⟩ hq he hr
  dsimp only at hi hal hc
  try simp 
  refine CondK.intro (fun h1 => ?_) (fun h1 => ?_)
  · simp at h1
    have hil : i < l.length := by omega
    rw [drop_cons l i hil, setG] at hc
    have hlo : l[i]? = some (el l i) := by rw [List.getElem?_eq_getElem hil, el_eq l i hil]
    try simp [h1, hil, hln, hlo]
    repeat (refine PreK.intro (by first | omega | (intros; first | omega | (refine ⟨by omega, ?_⟩; simp_all; done) | (simp_all; done) | (simp_all; omega))) fun _ => ?_; (try simp [h1, hil, hln, hlo]))
    cases hb : el l i with
    | true =>
      rw [hb, if_pos rfl] at hc
      refine CondK.tt ?_
      try simp 
      try simp 
      repeat (refine PreK.intro (by first | omega | (intros; first | omega | (refine ⟨by omega, ?_⟩; simp_all; done) | (simp_all; done) | (simp_all; omega))) fun _ => ?_; (try simp ))
      exact hq (i + 1, v + 1, acc ++ [(i : Int) - 1]) _ ⟨by dsimp only; omega, by simp; omega, by simpa using hc⟩ (by dsimp only; omega) (by simp)
    | false =>
      rw [hb, if_neg (by decide)] at hc
      refine CondK.ff ?_
      try simp 
      try simp 
      repeat (refine PreK.intro (by first | omega | (intros; first | omega | (refine ⟨by omega, ?_⟩; simp_all; done) | (simp_all; done) | (simp_all; omega))) fun _ => ?_; (try simp ))
      exact hq (i + 1, v, acc) _ ⟨by dsimp only; omega, by dsimp only; omega, hc⟩ (by dsimp only; omega) (by simp)
  · simp at h1
    have : i = 7 := by omega
    subst this
    rw [List.drop_eq_nil_of_le (by omega), setG, List.append_nil] at hc
    subst hc
    try simp 
    apply he
    try simp 
    repeat (refine PreK.intro (by first | omega | (intros; first | omega | (refine ⟨by omega, ?_⟩; simp_all; done) | (simp_all; done) | (simp_all; omega))) fun _ => ?_; (try simp ))
end Go.Proofs.Ytkhddecnllcaiaa
end

section
/- Functions of the cut as the value layer reads them. (written by gen.py) -/
set_option maxRecDepth 20000
namespace Go.Proofs.Ytkhddecnllcaiaa
open Go.Abs Go

def A92 : ACode :=
  (.seq (.reg [] [⟨some 1, (.box 22 (.tmp 0)), 0, none⟩,
      ⟨some 2, (.assign (.const .nilFunc)), 129, none⟩])
    (.seq (.reg [] [⟨some 3, (.makeFunc (.func 109) #[] #[(.tmp 1)]), 128, none⟩,
      ⟨some 2, (.assign (.tmp 3)), 129, none⟩])
    .ret))
theorem C92 {args : List AV} {r : AV} (hn : args.length ≤ 4) (h : vc Try.prog T [] A92 (Fin T [(.tmp 2)] r) ⟨envOf 0 args, []⟩) : CallP Try.prog 92 args r :=
  callP_of tok mixed Try.func92 (by kernel_rfl) (by kernel_rfl) (by kernel_rfl : Try.f92.ntmps = 4) (by kernel_rfl : Try.f92.body.bind (strip 4 (fun _ => [])) = some A92) hn h

end Go.Proofs.Ytkhddecnllcaiaa
end

section
/- The library's walk through a list from its end on, as what is ranged over. -/
namespace Go.Proofs.Ytkhddecnllcaiaa
open Go.Abs Go
open Go.RowKit Go.Shelf
attribute [local go_sem] Oper.semAt_some

/-- What is handed out: the places from the last one on, and what stands there. -/
def backL (l : List Int) : List (List Value) := (List.range l.length).map fun k => [.int .i64 ((l.length - 1 - k : Nat) : Int), .int .i64 (el l (l.length - 1 - k))]
theorem backL_len (l : List Int) : (backL l).length = l.length := by simp [backL]
theorem backL_get (l : List Int) (k : Nat) (h : k < l.length) : (backL l).getD k [] = [.int .i64 ((l.length - 1 - k : Nat) : Int), .int .i64 (el l (l.length - 1 - k))] := by
  simp [backL, List.getD_eq_getElem?_getD, h]

set_option maxRecDepth 100000 in
set_option maxHeartbeats 2000000 in
theorem backward_in (l : Nat) (Bs o0 : Nat) (p : Option Addr) (b off len cap : Nat) (hp : len ≠ 0 → p = some ⟨b, off, none⟩) (zs : List Int) (hz : zs.length = len) (hreach : len ≤ 1000) (X : Nat → Prop) (w : World)
    (J : Nat → World → Prop) (Jx : World → Prop)
    (hc : ∀ k W, J k W → W.cell? ⟨Bs, o0, none⟩ = some (.slice p len cap) ∧ ∀ j, j < len → W.cell? ⟨b, off + j, none⟩ = some (.int .i64 (el zs j)))
    (hY : ∀ k W, k < len → J k W → YieldAt Fence.wide 0 Try.prog l #[.int .i64 ((len - 1 - k : Nat) : Int), .int .i64 (el zs (len - 1 - k))] W fun e W' => (e = .returned (.bool true) ∧ J (k + 1) W') ∨ (e = .returned (.bool false) ∧ Jx W'))
    (h0 : J 0 w) :
    CallsIn Fence.wide 1 Try.prog 109 #[.func (.yield l) #[] #[], .pointer (some ⟨Bs, o0, none⟩)] w fun e W' => (∃ v, e = .returned v) ∧ (J len W' ∨ Jx W') := by
  refine callsIn_of_wp Try.func109 rfl trivial ?_ rfl
  simp only [Try.ntmps109, List.size_toArray, List.length_cons, List.length_nil, Nat.reduceAdd, Nat.reduceSub, Array.replicate_succ, Array.replicate_zero, List.push_toArray, List.append_toArray, List.nil_append, List.cons_append]
  obtain ⟨hb0, hc0⟩ := hc 0 w h0
  gi_wp2
  gi_loopw [3] (fun i wr => ∃ k : Nat, k ≤ len ∧ i = .int .i64 ((len : Int) - 1 - k) ∧ J k wr)
    (fun i _ => (intOf i + 1).toNat)
  case atStart => exact ⟨0, Nat.zero_le _, by simp, h0⟩
  case round =>
    obtain ⟨k, hk, rfl, hJs⟩ := hrel
    obtain ⟨hb1, hc1⟩ := hc k wr hJs
    by_cases hlt : k < len
    · obtain rfl : p = _ := hp (by omega)
      obtain ⟨fn, tmps, assign, body, hy, hR⟩ := hY k wr hlt hJs
      obtain ⟨n, hn⟩ : ∃ n : Nat, n + k + 1 = len := ⟨len - 1 - k, by omega⟩
      have e : (len : Int) - 1 - k = (n : Int) := by omega
      have e2 : len - 1 - k = n := by omega
      rw [e2] at hy
      clear e2
      have hcx := hc1 n (by omega)
      have hnl : n < len := by omega
      rw [e]
      clear e
      gi_wp2
      refine hR.mono ?_
      rintro e W3 (⟨rfl, hJ3⟩ | ⟨rfl, hJx3⟩)
      · gi_wp2
        go_roundw
        case rel => exact ⟨k + 1, by omega, by simp; omega, hJ3⟩
        case measure => simp [intOf]
      · gi_wp2
        refine bodyPost_ret (results_none rfl _ _ _) rfl ?_
        exact ⟨⟨_, rfl⟩, .inr hJx3⟩
    · obtain rfl : k = len := by omega
      have e : (k : Int) - 1 - k = -1 := by omega
      rw [e]
      gi_wp2
      go_end0
      exact ⟨⟨_, rfl⟩, .inl hJs⟩
theorem backward_it (l : List Int) (hl : l.length ≤ 1000) : IterP Try.prog 109 [.ipt (ints l) 0] (backL l) := by
  refine ⟨⟨_, Try.func109, by decide +kernel, by simp [Try.f109]⟩, fun y w X vs hX hlen hargs J Jx hJg hJxg hkeep hY h0 => ?_⟩
  obtain ⟨v0, rfl⟩ : ∃ v0, vs = #[v0] := by
    cases vs with
    | mk l =>
      match l, hlen with
      | [a], _ => exact ⟨a, rfl⟩
  have h1 : Rep w X Mu.none (.ipt (ints l) 0) v0 := hargs 0 (by simp)
  rw [backL_len] at hY
  have hY2 : ∀ k W, k < l.length → J k W → YieldAt Fence.wide 0 Try.prog y #[.int .i64 ((l.length - 1 - k : Nat) : Int), .int .i64 (el l (l.length - 1 - k))] W fun e W' => (e = .returned (.bool true) ∧ J (k + 1) W') ∨ (e = .returned (.bool false) ∧ Jx W') := by
    intro k W hk hJ
    have := hY k W hk hJ
    rw [backL_get l k hk] at this
    exact this
  rw [backL_len]
  cases h1 with
  | @ipt _ _ _ b off c e0 fr hXb hb hfit hone h2 =>
    have hfit' : off < c.size := by simp only [ints, AV.width] at hfit; omega
    have hcell : ∀ k W, J k W → W.cell? ⟨b, off, none⟩ = some (c.getD off undef) := by
      intro k W hJ
      have := hkeep k W hJ b (lt_of_heap hb) hXb
      exact cell_heap (this.trans hb) hfit'
    have h3 : Rep w X Mu.none (.seq 1 (l.map iv) false) (c.getD off undef) := h2
    refine callsIn_wide.2 ((callsIn_wide (n := 1)).1 ?_)
    generalize hv : c.getD off undef = u at h3 hcell
    generalize hm : l.map iv = m at h3
    have hml : m.length = l.length := by rw [← hm]; simp
    cases h3 with
    | nil =>
      have h00 : l.length = 0 := by simpa using hml.symm
      have := backward_in y b off _ 0 0 l.length 0 (fun h => absurd h00 h) l rfl hl X w J Jx (fun k W hJ => ⟨by rw [hcell k W hJ, h00], fun j hj => by omega⟩) hY2 h0
      exact this
    | @seq _ _ _ _ b2 off2 cap c2 e2 fr2 hX2 hb2 hcap hfull hbig hfit2 hw2 hone2 hr2 =>
      have hcells : ∀ j, j < l.length → c2.getD (off2 + j) undef = .int .i64 (el l j) := by
        intro j hj
        have := hr2 j (by omega)
        rw [← hm] at this
        have e : (l.map iv).getD j .junk = iv (el l j) := nth_map iv l j hj
        rw [e] at this
        simp only [iv, elemVal, Nat.mul_one] at this
        exact this.one.1
      have := backward_in y b off _ b2 off2 l.length cap (fun _ => rfl) l rfl hl X w J Jx (fun k W hJ => ⟨by rw [hcell k W hJ, hml], fun j hj => by
        have hk := hkeep k W hJ b2 (lt_of_heap hb2) hX2
        rw [cell_heap (hk.trans hb2) (by omega), hcells j hj]⟩) hY2 h0
      exact this
theorem Backward_c (l : List Int) : CallP Try.prog 92 [ints l] (.fn 109 [] [.ipt (ints l) 0]) := by
  refine C92 (by simp) ?_
  simp [A92]
end Go.Proofs.Ytkhddecnllcaiaa
end

section
/- Plain: words in ascending order; a list into which words are put in order; words by a queue and by going deep are the same. -/
namespace Go.Proofs.Ytkhddecnllcaiaa
open Go.Abs Go

theorem el_mem_of {α : Type} [Inhabited α] (o : List α) (k : Nat) (h : k < o.length) : el o k ∈ o := by rw [el_eq o k h]; exact List.getElem_mem h
end Go.Proofs.Ytkhddecnllcaiaa
end

section
/- Functions of the cut as the value layer reads them. (written by gen.py) -/
set_option maxRecDepth 20000
namespace Go.Proofs.Ytkhddecnllcaiaa
open Go.Abs Go

def A54 : RCode :=
  (.seq (.code (.reg [] [⟨some 2, (.box 24 (.tmp 0)), 0, none⟩,
      ⟨some 4, (.assign (.const (.slice none 0 0))), 22, none⟩]))
    (.seq (.code (.reg [] [⟨some 8, (.move (.tmp 1)), 22, none⟩,
      ⟨some 9, (.call ⟨(.value (.func 50)), #[(.tmp 8)], #[22]⟩), 22, none⟩,
      ⟨some 5, (.alloc 22), 0, none⟩,
      ⟨none, (.store 22 (.tmp 5) (.tmp 9)), 0, none⟩]))
    (.seq (.seq (.code (.reg [] [⟨some 10, (.load 24 (.tmp 2)), 24, none⟩,
      ⟨some 11, (.move (.tmp 1)), 22, none⟩,
      ⟨some 12, (.call ⟨(.value (.func 43)), #[(.tmp 10), (.tmp 11)], #[24, 22]⟩), 22, none⟩,
      ⟨some 13, (.call ⟨(.value (.func 92)), #[(.tmp 12)], #[22]⟩), 129, none⟩]))
    (.block 0 (.range (.tmp 13) [14, 15]
    (.reg [] [⟨some 7, (.assign (.tmp 15)), 3, none⟩])
    (.block 1 (.reg [] [⟨some 16, (.load 24 (.tmp 2)), 24, none⟩,
      ⟨some 17, (.load 22 (.tmp 5)), 22, none⟩,
      ⟨some 18, (.move (.tmp 7)), 3, none⟩,
      ⟨some 19, (.call ⟨(.value (.func 55)), #[(.tmp 16), (.tmp 17), (.tmp 18)], #[24, 22, 3]⟩), 22, none⟩,
      ⟨none, (.store 22 (.tmp 5) (.tmp 19)), 0, none⟩])))))
    (.code (.seq (.reg [] [⟨some 20, (.load 22 (.tmp 5)), 22, none⟩,
      ⟨some 4, (.assign (.tmp 20)), 22, none⟩])
    .ret)))))
theorem C54 {args : List AV} {r : AV} (hn : args.length ≤ 21) (h : vcR Try.prog T [] A54 (FinF T [(.tmp 4)] r) ⟨envOf 0 args, []⟩) : CallP Try.prog 54 args r :=
  callR_of tok mixed Try.func54 (by kernel_rfl) (by kernel_rfl) (by kernel_rfl : Try.f54.ntmps = 21) (by kernel_rfl : Try.f54.body.bind (stripR 21 (fun _ => [])) = some A54) hn h

end Go.Proofs.Ytkhddecnllcaiaa
end
