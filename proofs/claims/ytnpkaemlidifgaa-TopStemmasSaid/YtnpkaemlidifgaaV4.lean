/- Part 4 of the proof: the value layer and the contracts of the functions that the statement reaches; proved without conditions beyond those each theorem states. -/
import Derived.Test.YtnpkaemlidifgaaProg
import Derived.Shelf.SlSortCmp.Whole1
import Derived.Shelf.SlSortCmp.NoneTotal
import Derived.Shelf.Sort.Plain
import Derived.Shelf.Slices.In.SortNone
import Derived.Test.YtnpkaemlidifgaaV3
set_option linter.unusedSimpArgs false
set_option linter.unusedVariables false

section
/- The table of types of the cut, and that it is right. (written by types.py) -/
set_option maxRecDepth 8000
namespace Go.Proofs.Ytnpkaemlidifgaa
open Go.Abs

def rows : List (Nat × TI) := [
  (2, ⟨1, 8, .int .i64, .raw (.int .i64 0), false⟩),
  (3, ⟨1, 8, .int .i64, .raw (.int .i64 0), false⟩),
  (4, ⟨1, 1, .bool, .raw (.bool false), false⟩),
  (5, ⟨1, 1, .int .u8, .raw (.int .u8 0), false⟩),
  (9, ⟨1, 16, .str, .raw (.string ByteArray.empty), false⟩),
  (12, ⟨1, 8, .int .u64, .raw (.int .u64 0), false⟩),
  (13, ⟨2, 24, .struct [(0, 1, 9), (1, 1, 12)], .agg [.raw (.string ByteArray.empty), .raw (.int .u64 0)], false⟩),
  (21, ⟨1, 4, .int .i32, .raw (.int .i32 0), false⟩),
  (22, ⟨1, 24, .slice 23, .seq 1 [] true, false⟩),
  (23, ⟨1, 24, .slice 3, .seq 1 [] true, false⟩),
  (24, ⟨2, 48, .struct [(0, 1, 23), (1, 1, 23)], .agg [.seq 1 [] true, .seq 1 [] true], false⟩),
  (25, ⟨2, 48, .struct [(0, 1, 23), (1, 1, 23)], .agg [.seq 1 [] true, .seq 1 [] true], false⟩),
  (29, ⟨1, 8, .int .i64, .raw (.int .i64 0), false⟩),
  (38, ⟨4, 80, .struct [(0, 2, 25), (2, 1, 3), (3, 1, 23)], .agg [.seq 1 [] true, .seq 1 [] true, .raw (.int .i64 0), .seq 1 [] true], false⟩),
  (39, ⟨4, 80, .struct [(0, 2, 25), (2, 1, 3), (3, 1, 23)], .agg [.seq 1 [] true, .seq 1 [] true, .raw (.int .i64 0), .seq 1 [] true], false⟩),
  (46, ⟨1, 8, .flat, .raw .nilFunc, false⟩),
  (50, ⟨1, 24, .slice 84, .seq 2 [] true, false⟩),
  (80, ⟨1, 8, .flat, .raw .nilFunc, false⟩),
  (84, ⟨2, 16, .array 2 3, .agg [.raw (.int .i64 0), .raw (.int .i64 0)], true⟩),
  (86, ⟨1, 8, .flat, .raw .nilFunc, false⟩),
  (89, ⟨1, 8, .flat, .raw .nilFunc, false⟩),
  (92, ⟨1, 24, .slice 96, .seq 3 [] true, false⟩),
  (93, ⟨1, 8, .flat, .raw .nilFunc, false⟩),
  (96, ⟨3, 24, .array 3 3, .agg [.raw (.int .i64 0), .raw (.int .i64 0), .raw (.int .i64 0)], false⟩),
  (100, ⟨3, 3, .array 3 4, .agg [.raw (.bool false), .raw (.bool false), .raw (.bool false)], false⟩),
  (101, ⟨1, 8, .map 84 4 .two, .raw (.map none), false⟩),
  (102, ⟨9, 9, .array 3 100, .agg [.raw (.bool false), .raw (.bool false), .raw (.bool false), .raw (.bool false), .raw (.bool false), .raw (.bool false), .raw (.bool false), .raw (.bool false), .raw (.bool false)], false⟩),
  (106, ⟨1, 8, .int .u64, .raw (.int .u64 0), false⟩),
  (108, ⟨1, 8, .flat, .raw .nilFunc, false⟩),
  (111, ⟨1, 8, .int .i64, .raw (.int .i64 0), false⟩),
  (119, ⟨1, 4, .int .u32, .raw (.int .u32 0), false⟩),
  (121, ⟨1, 8, .int .u64, .raw (.int .u64 0), false⟩),
  (129, ⟨1, 8, .int .u64, .raw (.int .u64 0), false⟩),
  (133, ⟨1, 8, .flat, .raw (.pointer none), false⟩),
  (141, ⟨1, 8, .flat, .raw (.pointer none), false⟩),
  (155, ⟨1, 8, .flat, .raw (.pointer none), false⟩)]
def T : TT := findT rows
theorem T_2 : T 2 = some ⟨1, 8, .int .i64, .raw (.int .i64 0), false⟩ := by kernel_rfl
theorem T_3 : T 3 = some ⟨1, 8, .int .i64, .raw (.int .i64 0), false⟩ := by kernel_rfl
theorem T_4 : T 4 = some ⟨1, 1, .bool, .raw (.bool false), false⟩ := by kernel_rfl
theorem T_5 : T 5 = some ⟨1, 1, .int .u8, .raw (.int .u8 0), false⟩ := by kernel_rfl
theorem T_22 : T 22 = some ⟨1, 24, .slice 23, .seq 1 [] true, false⟩ := by kernel_rfl
theorem T_23 : T 23 = some ⟨1, 24, .slice 3, .seq 1 [] true, false⟩ := by kernel_rfl
theorem T_24 : T 24 = some ⟨2, 48, .struct [(0, 1, 23), (1, 1, 23)], .agg [.seq 1 [] true, .seq 1 [] true], false⟩ := by kernel_rfl
theorem T_25 : T 25 = some ⟨2, 48, .struct [(0, 1, 23), (1, 1, 23)], .agg [.seq 1 [] true, .seq 1 [] true], false⟩ := by kernel_rfl
theorem T_29 : T 29 = some ⟨1, 8, .int .i64, .raw (.int .i64 0), false⟩ := by kernel_rfl
theorem T_38 : T 38 = some ⟨4, 80, .struct [(0, 2, 25), (2, 1, 3), (3, 1, 23)], .agg [.seq 1 [] true, .seq 1 [] true, .raw (.int .i64 0), .seq 1 [] true], false⟩ := by kernel_rfl
theorem T_39 : T 39 = some ⟨4, 80, .struct [(0, 2, 25), (2, 1, 3), (3, 1, 23)], .agg [.seq 1 [] true, .seq 1 [] true, .raw (.int .i64 0), .seq 1 [] true], false⟩ := by kernel_rfl
theorem T_46 : T 46 = some ⟨1, 8, .flat, .raw .nilFunc, false⟩ := by kernel_rfl
theorem T_50 : T 50 = some ⟨1, 24, .slice 84, .seq 2 [] true, false⟩ := by kernel_rfl
theorem T_80 : T 80 = some ⟨1, 8, .flat, .raw .nilFunc, false⟩ := by kernel_rfl
theorem T_84 : T 84 = some ⟨2, 16, .array 2 3, .agg [.raw (.int .i64 0), .raw (.int .i64 0)], true⟩ := by kernel_rfl
theorem T_86 : T 86 = some ⟨1, 8, .flat, .raw .nilFunc, false⟩ := by kernel_rfl
theorem T_89 : T 89 = some ⟨1, 8, .flat, .raw .nilFunc, false⟩ := by kernel_rfl
theorem T_92 : T 92 = some ⟨1, 24, .slice 96, .seq 3 [] true, false⟩ := by kernel_rfl
theorem T_93 : T 93 = some ⟨1, 8, .flat, .raw .nilFunc, false⟩ := by kernel_rfl
theorem T_96 : T 96 = some ⟨3, 24, .array 3 3, .agg [.raw (.int .i64 0), .raw (.int .i64 0), .raw (.int .i64 0)], false⟩ := by kernel_rfl
theorem T_100 : T 100 = some ⟨3, 3, .array 3 4, .agg [.raw (.bool false), .raw (.bool false), .raw (.bool false)], false⟩ := by kernel_rfl
theorem T_101 : T 101 = some ⟨1, 8, .map 84 4 .two, .raw (.map none), false⟩ := by kernel_rfl
theorem T_102 : T 102 = some ⟨9, 9, .array 3 100, .agg [.raw (.bool false), .raw (.bool false), .raw (.bool false), .raw (.bool false), .raw (.bool false), .raw (.bool false), .raw (.bool false), .raw (.bool false), .raw (.bool false)], false⟩ := by kernel_rfl
theorem T_106 : T 106 = some ⟨1, 8, .int .u64, .raw (.int .u64 0), false⟩ := by kernel_rfl
theorem T_108 : T 108 = some ⟨1, 8, .flat, .raw .nilFunc, false⟩ := by kernel_rfl
theorem tokRows : (rows.all fun r => rowOK Try.prog r.1 r.2) = true := by kernel_rfl
theorem mixed : Try.prog.follows .mixedOrders = true := by kernel_rfl
theorem eqRows : ∀ r ∈ rows.filter fun r => r.2.eq, EqR Try.prog r.1 r.2.zero := by
  intro r hr
  have he : rows.filter (fun r => r.2.eq) = [(84, ⟨2, 16, .array 2 3, .agg [.raw (.int .i64 0), .raw (.int .i64 0)], true⟩)] := rfl
  rw [he] at hr
  simp only [List.mem_cons, List.not_mem_nil, or_false] at hr
  rcases hr with rfl
  · exact eqR_arr2 Try.underlying84 Try.underlying3 (fun w => Try.sizeOf3 w) Try.eqGuardType84
theorem tok : TOK Try.prog T := tok_of rows tokRows fun r hr he => eqRows r (List.mem_filter.2 ⟨hr, he⟩)
attribute [irreducible] T
end Go.Proofs.Ytnpkaemlidifgaa
end

section
/- The values of the program: numbers, words, rules, steps, choices. -/
namespace Go.Proofs.Ytnpkaemlidifgaa
open Go.Abs Go

@[simp] def iv (n : Int) : AV := .raw (.int .i64 n)
@[simp] def bv (b : Bool) : AV := .raw (.bool b)
@[simp] def ints (l : List Int) : AV := .seq 1 (l.map iv) false
structure Rule where
  frm : Int
  to : List Int
  left : List Int
  right : List Int
deriving DecidableEq
instance : Inhabited Rule := ⟨⟨0, [], [], []⟩⟩
@[simp] def ruleV (r : Rule) : AV := .agg [iv r.frm, ints r.to, ints r.left, ints r.right]
@[simp] def rulesV (s : List Rule) : AV := .seq 4 (s.map ruleV) false
structure Step where
  rule : Int
  place : Int
deriving DecidableEq
instance : Inhabited Step := ⟨⟨0, 0⟩⟩
@[simp] def stepV (x : Step) : AV := .agg [iv x.rule, iv x.place]
@[simp] def stepsV (l : List Step) : AV := .seq 2 (l.map stepV) false
structure Choice where
  rule : Int
  place : Int
  ground : Int
deriving DecidableEq
instance : Inhabited Choice := ⟨⟨0, 0, 0⟩⟩
@[simp] def choiceV (x : Choice) : AV := .agg [iv x.rule, iv x.place, iv x.ground]
@[simp] def choicesV (l : List Choice) : AV := .seq 3 (l.map choiceV) false

@[simp] theorem nth_iv (l : List Int) (k : Nat) (h : k < l.length) : nth (l.map iv) k = iv (el l k) := nth_map iv l k h
@[simp] theorem nth_ints (l : List (List Int)) (k : Nat) (h : k < l.length) : nth (l.map ints) k = ints (el l k) := nth_map ints l k h
@[simp] theorem nth_rule (l : List Rule) (k : Nat) (h : k < l.length) : nth (l.map ruleV) k = ruleV (el l k) := nth_map ruleV l k h
@[simp] theorem nth_step (l : List Step) (k : Nat) (h : k < l.length) : nth (l.map stepV) k = stepV (el l k) := nth_map stepV l k h
@[simp] theorem nth_choice (l : List Choice) (k : Nat) (h : k < l.length) : nth (l.map choiceV) k = choiceV (el l k) := nth_map choiceV l k h

@[simp] theorem refsL_bv : ∀ l : List Bool, AV.refsL (l.map bv) = []
  | [] => rfl
  | b :: l => by simp [refsL_bv l]
@[simp] theorem snapL_bv (m : List (Nat × Option Box)) : ∀ l : List Bool, snapL m (l.map bv) = l.map bv
  | [] => rfl
  | b :: l => by simp [snapL_bv m l]
@[simp] theorem snapOKL_bv (m : List (Nat × Option Box)) : ∀ l : List Bool, snapOKL m (l.map bv)
  | [] => trivial
  | b :: l => ⟨trivial, snapOKL_bv m l⟩
@[simp] theorem nth_nil (k : Nat) : nth [] k = .junk := rfl
@[simp] theorem nth_len {α : Type} (f : α → AV) (l : List α) : nth (l.map f) l.length = .junk := by simp [nth, List.getD_eq_getElem?_getD]

attribute [simp] bad T_2 T_3 T_4 T_5 T_23 T_29 T_22
end Go.Proofs.Ytnpkaemlidifgaa
end

section
/- Functions of the cut as the value layer reads them. (written by gen.py) -/
set_option maxRecDepth 20000
namespace Go.Proofs.Ytnpkaemlidifgaa
open Go.Abs Go

def A97 : ACode :=
  (.seq (.reg [] [⟨some 2, (.assign (.const (.slice none 0 0))), 23, none⟩])
    (.seq (.seq (.reg [] [⟨some 6, (.move (.tmp 0)), 23, none⟩,
      ⟨some 7, (.call ⟨(.builtin .len), #[(.tmp 6)], #[23]⟩), 3, none⟩,
      ⟨some 8, (.binOp .lss 3 (.tmp 7) (.const (.int .i64 2)) 3), 4, none⟩])
    (.cond (.tmp 8)
    (.seq (.reg [] [⟨some 9, (.move (.tmp 0)), 23, none⟩,
      ⟨some 2, (.assign (.tmp 9)), 23, none⟩])
    .ret)
    .skip))
    (.seq (.seq (.reg [] [⟨some 3, (.assign (.const (.int .i64 1))), 3, none⟩])
    (.block 0 (.loop (.seq (.seq (.reg [] [⟨some 10, (.move (.tmp 3)), 3, none⟩,
      ⟨some 11, (.move (.tmp 0)), 23, none⟩,
      ⟨some 12, (.call ⟨(.builtin .len), #[(.tmp 11)], #[23]⟩), 3, none⟩,
      ⟨some 13, (.binOp .lss 3 (.tmp 10) (.tmp 12) 3), 4, none⟩])
    (.cond (.tmp 13)
    .skip
    (.exit 0)))
    (.seq (.block 1 (.seq (.draw [] [⟨some 16, (.move (.tmp 0)), 23, none⟩,
      ⟨some 17, (.move (.tmp 3)), 3, none⟩,
      ⟨some 18, (.indexAddr 23 (.tmp 16) (.tmp 17)), 0, none⟩,
      ⟨some 19, (.load 3 (.tmp 18)), 3, none⟩,
      ⟨some 20, (.move (.tmp 0)), 23, none⟩,
      ⟨some 21, (.move (.tmp 3)), 3, none⟩,
      ⟨some 22, (.binOp .sub 3 (.tmp 21) (.const (.int .i64 1)) 3), 3, none⟩,
      ⟨some 23, (.indexAddr 23 (.tmp 20) (.tmp 22)), 0, none⟩,
      ⟨some 24, (.load 3 (.tmp 23)), 3, none⟩,
      ⟨some 25, (.binOp .eql 3 (.tmp 19) (.tmp 24) 3), 4, none⟩] [(0, 1), (0, 4), (1, 4), (2, 4), (3, 4), (0, 5), (1, 5), (2, 5), (3, 5), (4, 5), (0, 6), (1, 6), (2, 6), (3, 6), (4, 6), (0, 7), (1, 7), (2, 7), (3, 7), (0, 8), (1, 8), (2, 8), (3, 8)])
    (.cond (.tmp 25)
    (.seq (.reg [] [⟨some 26, (.move (.tmp 0)), 23, none⟩,
      ⟨some 27, (.move (.tmp 3)), 3, none⟩,
      ⟨some 28, (.slice 23 (.tmp 26) (some (.tmp 27)) none none), 23, none⟩,
      ⟨some 4, (.assign (.tmp 28)), 23, none⟩])
    (.seq (.seq (.reg [] [⟨some 5, (.assign (.const (.int .i64 1))), 3, none⟩])
    (.block 2 (.loop (.seq (.seq (.reg [] [⟨some 29, (.move (.tmp 5)), 3, none⟩,
      ⟨some 30, (.move (.tmp 4)), 23, none⟩,
      ⟨some 31, (.call ⟨(.builtin .len), #[(.tmp 30)], #[23]⟩), 3, none⟩,
      ⟨some 32, (.binOp .lss 3 (.tmp 29) (.tmp 31) 3), 4, none⟩])
    (.cond (.tmp 32)
    .skip
    (.exit 2)))
    (.seq (.block 3 (.seq (.draw [] [⟨some 35, (.move (.tmp 4)), 23, none⟩,
      ⟨some 36, (.move (.tmp 5)), 3, none⟩,
      ⟨some 37, (.indexAddr 23 (.tmp 35) (.tmp 36)), 0, none⟩,
      ⟨some 38, (.load 3 (.tmp 37)), 3, none⟩,
      ⟨some 39, (.move (.tmp 4)), 23, none⟩,
      ⟨some 40, (.move (.tmp 5)), 3, none⟩,
      ⟨some 41, (.binOp .sub 3 (.tmp 40) (.const (.int .i64 1)) 3), 3, none⟩,
      ⟨some 42, (.indexAddr 23 (.tmp 39) (.tmp 41)), 0, none⟩,
      ⟨some 43, (.load 3 (.tmp 42)), 3, none⟩,
      ⟨some 44, (.binOp .neq 3 (.tmp 38) (.tmp 43) 3), 4, none⟩] [(0, 1), (0, 4), (1, 4), (2, 4), (3, 4), (0, 5), (1, 5), (2, 5), (3, 5), (4, 5), (0, 6), (1, 6), (2, 6), (3, 6), (4, 6), (0, 7), (1, 7), (2, 7), (3, 7), (0, 8), (1, 8), (2, 8), (3, 8)])
    (.cond (.tmp 44)
    (.seq (.reg [] [⟨some 45, (.move (.tmp 0)), 23, none⟩,
      ⟨some 46, (.move (.tmp 3)), 3, none⟩,
      ⟨some 47, (.move (.tmp 4)), 23, none⟩,
      ⟨some 48, (.move (.tmp 5)), 3, none⟩,
      ⟨some 49, (.indexAddr 23 (.tmp 47) (.tmp 48)), 0, none⟩,
      ⟨some 50, (.load 3 (.tmp 49)), 3, none⟩,
      ⟨some 51, (.indexAddr 23 (.tmp 45) (.tmp 46)), 0, none⟩,
      ⟨none, (.store 3 (.tmp 51) (.tmp 50)), 0, none⟩])
    (.reg [] [⟨some 52, (.move (.tmp 3)), 3, none⟩,
      ⟨some 53, (.binOp .add 3 (.tmp 52) (.const (.int .i64 1)) 3), 3, none⟩,
      ⟨some 3, (.assign (.tmp 53)), 3, none⟩]))
    .skip)))
    (.reg [] [⟨some 33, (.move (.tmp 5)), 3, none⟩,
      ⟨some 34, (.binOp .add 3 (.tmp 33) (.const (.int .i64 1)) 3), 3, none⟩,
      ⟨some 5, (.assign (.tmp 34)), 3, none⟩]))))))
    (.seq (.reg [] [⟨some 54, (.move (.tmp 0)), 23, none⟩,
      ⟨some 55, (.move (.tmp 3)), 3, none⟩,
      ⟨some 56, (.slice 23 (.tmp 54) (some (.tmp 55)) none none), 23, none⟩,
      ⟨none, (.call ⟨(.builtin .clear), #[(.tmp 56)], #[23]⟩), 0, none⟩])
    (.seq (.reg [] [⟨some 57, (.move (.tmp 0)), 23, none⟩,
      ⟨some 58, (.move (.tmp 3)), 3, none⟩,
      ⟨some 59, (.slice 23 (.tmp 57) none (some (.tmp 58)) none), 23, none⟩,
      ⟨some 2, (.assign (.tmp 59)), 23, none⟩])
    .ret))))
    .skip)))
    (.reg [] [⟨some 14, (.move (.tmp 3)), 3, none⟩,
      ⟨some 15, (.binOp .add 3 (.tmp 14) (.const (.int .i64 1)) 3), 3, none⟩,
      ⟨some 3, (.assign (.tmp 15)), 3, none⟩]))))))
    (.seq (.reg [] [⟨some 60, (.move (.tmp 0)), 23, none⟩,
      ⟨some 2, (.assign (.tmp 60)), 23, none⟩])
    .ret))))
theorem CL97 {pre suf : List AV} {sz : Nat} {els els' : List AV} {r : LRet} (hn : (pre ++ .sl lid 0 0 els.length :: suf).length ≤ 61) (h : vc Try.prog T [] A97 (FinL T [(.tmp 2)] sz r els') ⟨envOf 0 (pre ++ .sl lid 0 0 els.length :: suf), [(lid, some ⟨sz, els, 0, false⟩)]⟩) : CallL Try.prog 97 pre sz els suf r els' :=
  callL_of tok mixed Try.func97 (by kernel_rfl) (by kernel_rfl) (by kernel_rfl : Try.f97.ntmps = 61) (by kernel_rfl : Try.f97.body.bind (strip 61 (fun _ => [])) = some A97) hn h
def A85 : ACode :=
  (.seq (.reg [] [⟨some 6, (.assign (.const (.slice none 0 0))), 23, none⟩])
    (.seq (.reg [] [⟨some 8, (.move (.tmp 0)), 23, none⟩,
      ⟨some 9, (.move (.tmp 1)), 3, none⟩,
      ⟨some 10, (.move (.tmp 2)), 3, none⟩,
      ⟨some 11, (.move (.tmp 0)), 23, none⟩,
      ⟨some 12, (.call ⟨(.builtin .len), #[(.tmp 11)], #[23]⟩), 3, none⟩,
      ⟨some 13, (.slice 23 (.tmp 8) (some (.tmp 9)) (some (.tmp 10)) (some (.tmp 12))), 23, none⟩])
    (.seq (.seq (.reg [] [⟨some 14, (.move (.tmp 1)), 3, none⟩,
      ⟨some 15, (.move (.tmp 2)), 3, none⟩,
      ⟨some 16, (.binOp .eql 3 (.tmp 14) (.tmp 15) 3), 4, none⟩])
    (.cond (.tmp 16)
    (.seq (.reg [] [⟨some 17, (.move (.tmp 0)), 23, none⟩,
      ⟨some 6, (.assign (.tmp 17)), 23, none⟩])
    .ret)
    .skip))
    (.seq (.reg [] [⟨some 18, (.move (.tmp 0)), 23, none⟩,
      ⟨some 19, (.call ⟨(.builtin .len), #[(.tmp 18)], #[23]⟩), 3, none⟩,
      ⟨some 7, (.assign (.tmp 19)), 3, none⟩])
    (.seq (.draw [] [⟨some 20, (.move (.tmp 0)), 23, none⟩,
      ⟨some 21, (.move (.tmp 1)), 3, none⟩,
      ⟨some 22, (.slice 23 (.tmp 20) none (some (.tmp 21)) none), 23, none⟩,
      ⟨some 23, (.move (.tmp 0)), 23, none⟩,
      ⟨some 24, (.move (.tmp 2)), 3, none⟩,
      ⟨some 25, (.slice 23 (.tmp 23) (some (.tmp 24)) none none), 23, none⟩,
      ⟨some 26, (.call ⟨(.builtin .append), #[(.tmp 22), (.tmp 25)], #[23, 23]⟩), 23, none⟩,
      ⟨some 0, (.assign (.tmp 26)), 23, none⟩] [(0, 1), (0, 3), (1, 3), (2, 3), (0, 4), (1, 4), (2, 4), (3, 4), (0, 5), (1, 5), (2, 5)])
    (.seq (.reg [] [⟨some 27, (.move (.tmp 0)), 23, none⟩,
      ⟨some 28, (.move (.tmp 0)), 23, none⟩,
      ⟨some 29, (.call ⟨(.builtin .len), #[(.tmp 28)], #[23]⟩), 3, none⟩,
      ⟨some 30, (.move (.tmp 7)), 3, none⟩,
      ⟨some 31, (.slice 23 (.tmp 27) (some (.tmp 29)) (some (.tmp 30)) none), 23, none⟩,
      ⟨none, (.call ⟨(.builtin .clear), #[(.tmp 31)], #[23]⟩), 0, none⟩])
    (.seq (.reg [] [⟨some 32, (.move (.tmp 0)), 23, none⟩,
      ⟨some 6, (.assign (.tmp 32)), 23, none⟩])
    .ret)))))))
theorem CL85 {pre suf : List AV} {sz : Nat} {els els' : List AV} {r : LRet} (hn : (pre ++ .sl lid 0 0 els.length :: suf).length ≤ 33) (h : vc Try.prog T [] A85 (FinL T [(.tmp 6)] sz r els') ⟨envOf 0 (pre ++ .sl lid 0 0 els.length :: suf), [(lid, some ⟨sz, els, 0, false⟩)]⟩) : CallL Try.prog 85 pre sz els suf r els' :=
  callL_of tok mixed Try.func85 (by kernel_rfl) (by kernel_rfl) (by kernel_rfl : Try.f85.ntmps = 33) (by kernel_rfl : Try.f85.body.bind (strip 33 (fun _ => [])) = some A85) hn h
def A94 : ACode :=
  (.seq (.reg [] [⟨some 1, (.box 23 (.tmp 0)), 0, none⟩,
      ⟨some 2, (.assign (.const .nilFunc)), 94, none⟩])
    (.seq (.reg [] [⟨some 3, (.makeFunc (.func 103) #[] #[(.tmp 1)]), 93, none⟩,
      ⟨some 2, (.assign (.tmp 3)), 94, none⟩])
    .ret))
theorem C94 {args : List AV} {r : AV} (hn : args.length ≤ 4) (h : vc Try.prog T [] A94 (Fin T [(.tmp 2)] r) ⟨envOf 0 args, []⟩) : CallP Try.prog 94 args r :=
  callP_of tok mixed Try.func94 (by kernel_rfl) (by kernel_rfl) (by kernel_rfl : Try.f94.ntmps = 4) (by kernel_rfl : Try.f94.body.bind (strip 4 (fun _ => [])) = some A94) hn h
def A21 : ACode :=
  (.seq (.reg [] [⟨some 4, (.box 25 (.tmp 1)), 0, none⟩,
      ⟨some 6, (.assign (.const (.int .i64 0))), 3, none⟩,
      ⟨some 7, (.assign (.const (.bool false))), 4, none⟩,
      ⟨some 8, (.assign (.const (.int .i64 0))), 29, none⟩])
    (.seq (.seq (.reg [] [⟨some 12, (.move (.tmp 0)), 22, none⟩,
      ⟨some 13, (.load 25 (.tmp 4)), 25, none⟩,
      ⟨some 14, (.move (.tmp 2)), 3, none⟩,
      ⟨some 15, (.buildSlice 23 1 #[(0, (.tmp 14))]), 23, none⟩,
      ⟨some 16, (.call ⟨(.value (.func 59)), #[(.tmp 12), (.tmp 13), (.tmp 15)], #[22, 25, 23]⟩), 29, none⟩,
      ⟨some 9, (.assign (.tmp 16)), 29, none⟩])
    (.seq (.reg [] [⟨some 17, (.move (.tmp 9)), 29, none⟩,
      ⟨some 18, (.binOp .neq 29 (.tmp 17) (.const (.int .i64 0)) 29), 4, none⟩])
    (.cond (.tmp 18)
    (.seq (.reg [] [⟨some 19, (.move (.tmp 9)), 29, none⟩,
      ⟨some 6, (.assign (.const (.int .i64 0))), 3, none⟩,
      ⟨some 7, (.assign (.const (.bool false))), 4, none⟩,
      ⟨some 8, (.assign (.tmp 19)), 29, none⟩])
    .ret)
    .skip)))
    (.seq (.reg [] [⟨some 21, (.move (.tmp 0)), 22, none⟩,
      ⟨some 22, (.load 25 (.tmp 4)), 25, none⟩,
      ⟨some 23, (.move (.tmp 2)), 3, none⟩,
      ⟨some 24, (.call ⟨(.value (.func 60)), #[(.tmp 21), (.tmp 22), (.tmp 23)], #[22, 25, 3]⟩), 69, none⟩,
      ⟨some 20, (.move (.tmp 24)), 69, none⟩,
      ⟨some 25, (.extract (.tmp 20) 0), 23, none⟩,
      ⟨some 26, (.extract (.tmp 20) 1), 4, none⟩,
      ⟨some 10, (.assign (.tmp 25)), 23, none⟩,
      ⟨some 11, (.assign (.tmp 26)), 4, none⟩])
    (.seq (.seq (.reg [] [⟨some 27, (.move (.tmp 11)), 4, none⟩,
      ⟨some 28, (.unOp .not 4 (.tmp 27)), 4, none⟩])
    (.cond (.tmp 28)
    (.seq (.reg [] [⟨some 6, (.assign (.const (.int .i64 0))), 3, none⟩,
      ⟨some 7, (.assign (.const (.bool false))), 4, none⟩,
      ⟨some 8, (.assign (.const (.int .i64 0))), 29, none⟩])
    .ret)
    .skip))
    (.seq (.reg [] [⟨some 29, (.load 25 (.tmp 4)), 25, none⟩,
      ⟨some 30, (.move (.tmp 10)), 23, none⟩,
      ⟨some 31, (.call ⟨(.value (.func 61)), #[(.tmp 29), (.tmp 30)], #[25, 23]⟩), 3, none⟩,
      ⟨some 6, (.assign (.tmp 31)), 3, none⟩,
      ⟨some 7, (.assign (.const (.bool true))), 4, none⟩,
      ⟨some 8, (.assign (.const (.int .i64 0))), 29, none⟩])
    .ret)))))
theorem C21 {args : List AV} {r : AV} (hn : args.length ≤ 32) (h : vc Try.prog T [] A21 (Fin T [(.tmp 6), (.tmp 7), (.tmp 8)] r) ⟨envOf 0 args, []⟩) : CallP Try.prog 21 args r :=
  callP_of tok mixed Try.func21 (by kernel_rfl) (by kernel_rfl) (by kernel_rfl : Try.f21.ntmps = 32) (by kernel_rfl : Try.f21.body.bind (strip 32 (fun _ => [])) = some A21) hn h
def A23 : ACode :=
  (.seq (.reg [] [⟨some 4, (.assign (.const (.int .i64 0))), 3, none⟩,
      ⟨some 5, (.assign (.const (.int .i64 0))), 29, none⟩])
    (.seq (.seq (.reg [] [⟨some 7, (.move (.tmp 0)), 22, none⟩,
      ⟨some 8, (.move (.tmp 1)), 3, none⟩,
      ⟨some 9, (.buildSlice 23 1 #[(0, (.tmp 8))]), 23, none⟩,
      ⟨some 10, (.call ⟨(.value (.func 65)), #[(.tmp 7), (.tmp 9)], #[22, 23]⟩), 29, none⟩,
      ⟨some 6, (.assign (.tmp 10)), 29, none⟩])
    (.seq (.reg [] [⟨some 11, (.move (.tmp 6)), 29, none⟩,
      ⟨some 12, (.binOp .neq 29 (.tmp 11) (.const (.int .i64 0)) 29), 4, none⟩])
    (.cond (.tmp 12)
    (.seq (.reg [] [⟨some 13, (.move (.tmp 6)), 29, none⟩,
      ⟨some 4, (.assign (.const (.int .i64 0))), 3, none⟩,
      ⟨some 5, (.assign (.tmp 13)), 29, none⟩])
    .ret)
    .skip)))
    (.seq (.reg [] [⟨some 14, (.move (.tmp 0)), 22, none⟩,
      ⟨some 15, (.move (.tmp 1)), 3, none⟩,
      ⟨some 16, (.call ⟨(.value (.func 67)), #[(.tmp 14), (.tmp 15)], #[22, 3]⟩), 23, none⟩,
      ⟨some 17, (.call ⟨(.value (.func 66)), #[(.tmp 16)], #[23]⟩), 3, none⟩,
      ⟨some 4, (.assign (.tmp 17)), 3, none⟩,
      ⟨some 5, (.assign (.const (.int .i64 0))), 29, none⟩])
    .ret)))
theorem C23 {args : List AV} {r : AV} (hn : args.length ≤ 18) (h : vc Try.prog T [] A23 (Fin T [(.tmp 4), (.tmp 5)] r) ⟨envOf 0 args, []⟩) : CallP Try.prog 23 args r :=
  callP_of tok mixed Try.func23 (by kernel_rfl) (by kernel_rfl) (by kernel_rfl : Try.f23.ntmps = 18) (by kernel_rfl : Try.f23.body.bind (strip 18 (fun _ => [])) = some A23) hn h
def A24 : ACode :=
  (.seq (.reg [] [⟨some 4, (.box 25 (.tmp 1)), 0, none⟩,
      ⟨some 6, (.assign (.const (.slice none 0 0))), 23, none⟩,
      ⟨some 7, (.assign (.const (.bool false))), 4, none⟩,
      ⟨some 8, (.assign (.const (.int .i64 0))), 29, none⟩])
    (.seq (.seq (.reg [] [⟨some 12, (.move (.tmp 0)), 22, none⟩,
      ⟨some 13, (.load 25 (.tmp 4)), 25, none⟩,
      ⟨some 14, (.move (.tmp 2)), 3, none⟩,
      ⟨some 15, (.buildSlice 23 1 #[(0, (.tmp 14))]), 23, none⟩,
      ⟨some 16, (.call ⟨(.value (.func 59)), #[(.tmp 12), (.tmp 13), (.tmp 15)], #[22, 25, 23]⟩), 29, none⟩,
      ⟨some 9, (.assign (.tmp 16)), 29, none⟩])
    (.seq (.reg [] [⟨some 17, (.move (.tmp 9)), 29, none⟩,
      ⟨some 18, (.binOp .neq 29 (.tmp 17) (.const (.int .i64 0)) 29), 4, none⟩])
    (.cond (.tmp 18)
    (.seq (.reg [] [⟨some 19, (.move (.tmp 9)), 29, none⟩,
      ⟨some 6, (.assign (.const (.slice none 0 0))), 23, none⟩,
      ⟨some 7, (.assign (.const (.bool false))), 4, none⟩,
      ⟨some 8, (.assign (.tmp 19)), 29, none⟩])
    .ret)
    .skip)))
    (.seq (.reg [] [⟨some 21, (.move (.tmp 0)), 22, none⟩,
      ⟨some 22, (.load 25 (.tmp 4)), 25, none⟩,
      ⟨some 23, (.move (.tmp 2)), 3, none⟩,
      ⟨some 24, (.call ⟨(.value (.func 60)), #[(.tmp 21), (.tmp 22), (.tmp 23)], #[22, 25, 3]⟩), 69, none⟩,
      ⟨some 20, (.move (.tmp 24)), 69, none⟩,
      ⟨some 25, (.extract (.tmp 20) 0), 23, none⟩,
      ⟨some 26, (.extract (.tmp 20) 1), 4, none⟩,
      ⟨some 10, (.assign (.tmp 25)), 23, none⟩,
      ⟨some 11, (.assign (.tmp 26)), 4, none⟩])
    (.seq (.reg [] [⟨some 27, (.move (.tmp 10)), 23, none⟩,
      ⟨some 28, (.move (.tmp 11)), 4, none⟩,
      ⟨some 6, (.assign (.tmp 27)), 23, none⟩,
      ⟨some 7, (.assign (.tmp 28)), 4, none⟩,
      ⟨some 8, (.assign (.const (.int .i64 0))), 29, none⟩])
    .ret))))
theorem C24 {args : List AV} {r : AV} (hn : args.length ≤ 29) (h : vc Try.prog T [] A24 (Fin T [(.tmp 6), (.tmp 7), (.tmp 8)] r) ⟨envOf 0 args, []⟩) : CallP Try.prog 24 args r :=
  callP_of tok mixed Try.func24 (by kernel_rfl) (by kernel_rfl) (by kernel_rfl : Try.f24.ntmps = 29) (by kernel_rfl : Try.f24.body.bind (strip 29 (fun _ => [])) = some A24) hn h
def A26 : ACode :=
  (.seq (.reg [] [⟨some 5, (.box 25 (.tmp 1)), 0, none⟩,
      ⟨some 8, (.assign (.const (.int .i64 0))), 3, none⟩,
      ⟨some 9, (.assign (.const (.int .i64 0))), 29, none⟩])
    (.seq (.seq (.reg [] [⟨some 13, (.move (.tmp 0)), 22, none⟩,
      ⟨some 14, (.load 25 (.tmp 5)), 25, none⟩,
      ⟨some 15, (.move (.tmp 2)), 3, none⟩,
      ⟨some 16, (.buildSlice 23 1 #[(0, (.tmp 15))]), 23, none⟩,
      ⟨some 17, (.call ⟨(.value (.func 59)), #[(.tmp 13), (.tmp 14), (.tmp 16)], #[22, 25, 23]⟩), 29, none⟩,
      ⟨some 10, (.assign (.tmp 17)), 29, none⟩])
    (.seq (.reg [] [⟨some 18, (.move (.tmp 10)), 29, none⟩,
      ⟨some 19, (.binOp .neq 29 (.tmp 18) (.const (.int .i64 0)) 29), 4, none⟩])
    (.cond (.tmp 19)
    (.seq (.reg [] [⟨some 20, (.move (.tmp 10)), 29, none⟩,
      ⟨some 8, (.assign (.const (.int .i64 0))), 3, none⟩,
      ⟨some 9, (.assign (.tmp 20)), 29, none⟩])
    .ret)
    .skip)))
    (.seq (.seq (.reg [] [⟨some 21, (.move (.tmp 3)), 23, none⟩,
      ⟨some 22, (.call ⟨(.builtin .len), #[(.tmp 21)], #[23]⟩), 3, none⟩,
      ⟨some 23, (.fieldAddr 25 (.tmp 5) 0), 0, none⟩,
      ⟨some 24, (.load 23 (.tmp 23)), 23, none⟩,
      ⟨some 25, (.call ⟨(.builtin .len), #[(.tmp 24)], #[23]⟩), 3, none⟩,
      ⟨some 26, (.binOp .neq 3 (.tmp 22) (.tmp 25) 3), 4, none⟩,
      ⟨some 27, (.move (.tmp 26)), 4, none⟩,
      ⟨some 28, (.move (.tmp 3)), 23, some (27, false)⟩,
      ⟨some 29, (.call ⟨(.value (.func 69)), #[(.tmp 28), (.func 70)], #[23, 80]⟩), 4, some (27, false)⟩,
      ⟨some 30, (.pick (.tmp 27) (.const (.bool true)) (.tmp 29)), 4, none⟩])
    (.cond (.tmp 30)
    (.seq (.reg [] [⟨some 8, (.assign (.const (.int .i64 0))), 3, none⟩,
      ⟨some 9, (.assign (.const (.int .i64 1))), 29, none⟩])
    .ret)
    .skip))
    (.seq (.seq (.reg [] [⟨some 31, (.fieldAddr 25 (.tmp 5) 1), 0, none⟩,
      ⟨some 32, (.load 23 (.tmp 31)), 23, none⟩,
      ⟨some 33, (.call ⟨(.builtin .len), #[(.tmp 32)], #[23]⟩), 3, none⟩,
      ⟨some 34, (.move (.const (.int .i64 0))), 3, none⟩])
    (.block 0 (.loop (.seq (.reg [] [⟨some 35, (.binOp .lss 3 (.tmp 34) (.tmp 33) 3), 0, none⟩])
    (.seq (.cond (.tmp 35)
    .skip
    (.exit 0))
    (.seq (.block 1 (.seq (.reg [] [⟨some 36, (.move (.tmp 34)), 3, none⟩,
      ⟨some 37, (.indexAddr 23 (.tmp 32) (.tmp 34)), 0, none⟩,
      ⟨some 38, (.load 3 (.tmp 37)), 3, none⟩,
      ⟨some 11, (.assign (.tmp 36)), 3, none⟩,
      ⟨some 12, (.assign (.tmp 38)), 3, none⟩])
    (.seq (.draw [] [⟨some 39, (.move (.tmp 3)), 23, none⟩,
      ⟨some 40, (.move (.tmp 12)), 3, none⟩,
      ⟨some 41, (.indexAddr 23 (.tmp 39) (.tmp 40)), 0, none⟩,
      ⟨some 42, (.load 3 (.tmp 41)), 3, none⟩,
      ⟨some 43, (.move (.tmp 0)), 22, none⟩,
      ⟨some 44, (.move (.tmp 11)), 3, none⟩,
      ⟨some 45, (.indexAddr 22 (.tmp 43) (.tmp 44)), 0, none⟩,
      ⟨some 46, (.load 23 (.tmp 45)), 23, none⟩,
      ⟨some 47, (.move (.tmp 2)), 3, none⟩,
      ⟨some 48, (.indexAddr 23 (.tmp 46) (.tmp 47)), 0, none⟩,
      ⟨some 49, (.load 3 (.tmp 48)), 3, none⟩,
      ⟨some 50, (.binOp .neq 3 (.tmp 42) (.tmp 49) 3), 4, none⟩] [(0, 1), (0, 4), (1, 4), (2, 4), (3, 4), (0, 5), (1, 5), (2, 5), (3, 5), (4, 5), (0, 6), (1, 6), (2, 6), (3, 6), (0, 7), (1, 7), (2, 7), (3, 7), (0, 8), (1, 8), (2, 8), (3, 8), (4, 8), (5, 8), (6, 8), (7, 8), (0, 9), (1, 9), (2, 9), (3, 9), (0, 10), (1, 10), (2, 10), (3, 10)])
    (.cond (.tmp 50)
    (.seq (.reg [] [⟨some 8, (.assign (.const (.int .i64 0))), 3, none⟩,
      ⟨some 9, (.assign (.const (.int .i64 7))), 29, none⟩])
    .ret)
    .skip))))
    (.reg [] [⟨some 51, (.binOp .add 3 (.tmp 34) (.const (.int .i64 1)) 3), 3, none⟩,
      ⟨some 34, (.move (.tmp 51)), 3, none⟩])))))))
    (.seq (.reg [] [⟨some 52, (.load 25 (.tmp 5)), 25, none⟩,
      ⟨some 53, (.move (.tmp 3)), 23, none⟩,
      ⟨some 54, (.call ⟨(.value (.func 61)), #[(.tmp 52), (.tmp 53)], #[25, 23]⟩), 3, none⟩,
      ⟨some 8, (.assign (.tmp 54)), 3, none⟩,
      ⟨some 9, (.assign (.const (.int .i64 0))), 29, none⟩])
    .ret)))))
theorem C26 {args : List AV} {r : AV} (hn : args.length ≤ 55) (h : vc Try.prog T [] A26 (Fin T [(.tmp 8), (.tmp 9)] r) ⟨envOf 0 args, []⟩) : CallP Try.prog 26 args r :=
  callP_of tok mixed Try.func26 (by kernel_rfl) (by kernel_rfl) (by kernel_rfl : Try.f26.ntmps = 55) (by kernel_rfl : Try.f26.body.bind (strip 55 (fun _ => [])) = some A26) hn h
def A27 : ACode :=
  (.seq (.reg [] [⟨some 1, (.box 25 (.tmp 0)), 0, none⟩,
      ⟨some 2, (.assign (.const (.int .i64 0))), 29, none⟩])
    (.seq (.seq (.reg [] [⟨some 7, (.fieldAddr 25 (.tmp 1) 0), 0, none⟩,
      ⟨some 8, (.load 23 (.tmp 7)), 23, none⟩,
      ⟨some 9, (.call ⟨(.builtin .len), #[(.tmp 8)], #[23]⟩), 3, none⟩,
      ⟨some 10, (.call ⟨(.value (.func 72)), #[(.tmp 9), (.const (.int .i64 1)), (.const (.int .i64 16))], #[3, 3, 3]⟩), 4, none⟩,
      ⟨some 11, (.unOp .not 4 (.tmp 10)), 4, none⟩,
      ⟨some 12, (.move (.tmp 11)), 4, none⟩,
      ⟨some 13, (.fieldAddr 25 (.tmp 1) 1), 0, some (12, false)⟩,
      ⟨some 14, (.load 23 (.tmp 13)), 23, some (12, false)⟩,
      ⟨some 15, (.call ⟨(.builtin .len), #[(.tmp 14)], #[23]⟩), 3, some (12, false)⟩,
      ⟨some 16, (.binOp .gtr 3 (.tmp 15) (.const (.int .i64 6)) 3), 4, some (12, false)⟩,
      ⟨some 17, (.pick (.tmp 12) (.const (.bool true)) (.tmp 16)), 4, none⟩])
    (.cond (.tmp 17)
    (.seq (.reg [] [⟨some 2, (.assign (.const (.int .i64 3))), 29, none⟩])
    .ret)
    .skip))
    (.seq (.seq (.reg [] [⟨some 18, (.fieldAddr 25 (.tmp 1) 0), 0, none⟩,
      ⟨some 19, (.load 23 (.tmp 18)), 23, none⟩,
      ⟨some 20, (.indexAddr 23 (.tmp 19) (.const (.int .i64 0))), 0, none⟩,
      ⟨some 21, (.load 3 (.tmp 20)), 3, none⟩,
      ⟨some 22, (.binOp .neq 3 (.tmp 21) (.const (.int .i64 (-1))) 3), 4, none⟩])
    (.cond (.tmp 22)
    (.seq (.reg [] [⟨some 2, (.assign (.const (.int .i64 1))), 29, none⟩])
    .ret)
    .skip))
    (.seq (.seq (.reg [] [⟨some 23, (.fieldAddr 25 (.tmp 1) 0), 0, none⟩,
      ⟨some 24, (.load 23 (.tmp 23)), 23, none⟩,
      ⟨some 25, (.call ⟨(.builtin .len), #[(.tmp 24)], #[23]⟩), 3, none⟩,
      ⟨some 26, (.move (.const (.int .i64 0))), 3, none⟩])
    (.block 0 (.loop (.seq (.reg [] [⟨some 27, (.binOp .lss 3 (.tmp 26) (.tmp 25) 3), 0, none⟩])
    (.seq (.cond (.tmp 27)
    .skip
    (.exit 0))
    (.seq (.block 1 (.seq (.reg [] [⟨some 28, (.move (.tmp 26)), 3, none⟩,
      ⟨some 29, (.indexAddr 23 (.tmp 24) (.tmp 26)), 0, none⟩,
      ⟨some 30, (.load 3 (.tmp 29)), 3, none⟩,
      ⟨some 3, (.assign (.tmp 28)), 3, none⟩,
      ⟨some 4, (.assign (.tmp 30)), 3, none⟩])
    (.seq (.reg [] [⟨some 31, (.move (.tmp 3)), 3, none⟩,
      ⟨some 32, (.binOp .gtr 3 (.tmp 31) (.const (.int .i64 0)) 3), 4, none⟩,
      ⟨some 33, (.move (.tmp 32)), 4, none⟩,
      ⟨some 34, (.move (.tmp 4)), 3, some (33, true)⟩,
      ⟨some 35, (.move (.tmp 3)), 3, some (33, true)⟩,
      ⟨some 36, (.binOp .sub 3 (.tmp 35) (.const (.int .i64 1)) 3), 3, some (33, true)⟩,
      ⟨some 37, (.call ⟨(.value (.func 72)), #[(.tmp 34), (.const (.int .i64 0)), (.tmp 36)], #[3, 3, 3]⟩), 4, some (33, true)⟩,
      ⟨some 38, (.unOp .not 4 (.tmp 37)), 4, some (33, true)⟩,
      ⟨some 39, (.pick (.tmp 33) (.tmp 38) (.const (.bool false))), 4, none⟩])
    (.cond (.tmp 39)
    (.seq (.reg [] [⟨some 2, (.assign (.const (.int .i64 1))), 29, none⟩])
    .ret)
    .skip))))
    (.reg [] [⟨some 40, (.binOp .add 3 (.tmp 26) (.const (.int .i64 1)) 3), 3, none⟩,
      ⟨some 26, (.move (.tmp 40)), 3, none⟩])))))))
    (.seq (.seq (.reg [] [⟨some 41, (.fieldAddr 25 (.tmp 1) 1), 0, none⟩,
      ⟨some 42, (.load 23 (.tmp 41)), 23, none⟩,
      ⟨some 43, (.call ⟨(.builtin .len), #[(.tmp 42)], #[23]⟩), 3, none⟩,
      ⟨some 44, (.move (.const (.int .i64 0))), 3, none⟩])
    (.block 2 (.loop (.seq (.reg [] [⟨some 45, (.binOp .lss 3 (.tmp 44) (.tmp 43) 3), 0, none⟩])
    (.seq (.cond (.tmp 45)
    .skip
    (.exit 2))
    (.seq (.block 3 (.seq (.reg [] [⟨some 46, (.indexAddr 23 (.tmp 42) (.tmp 44)), 0, none⟩,
      ⟨some 47, (.load 3 (.tmp 46)), 3, none⟩,
      ⟨some 6, (.assign (.tmp 47)), 3, none⟩])
    (.seq (.reg [] [⟨some 48, (.move (.tmp 6)), 3, none⟩,
      ⟨some 49, (.fieldAddr 25 (.tmp 1) 0), 0, none⟩,
      ⟨some 50, (.load 23 (.tmp 49)), 23, none⟩,
      ⟨some 51, (.call ⟨(.builtin .len), #[(.tmp 50)], #[23]⟩), 3, none⟩,
      ⟨some 52, (.binOp .sub 3 (.tmp 51) (.const (.int .i64 1)) 3), 3, none⟩,
      ⟨some 53, (.call ⟨(.value (.func 72)), #[(.tmp 48), (.const (.int .i64 0)), (.tmp 52)], #[3, 3, 3]⟩), 4, none⟩,
      ⟨some 54, (.unOp .not 4 (.tmp 53)), 4, none⟩])
    (.cond (.tmp 54)
    (.seq (.reg [] [⟨some 2, (.assign (.const (.int .i64 1))), 29, none⟩])
    .ret)
    .skip))))
    (.reg [] [⟨some 55, (.binOp .add 3 (.tmp 44) (.const (.int .i64 1)) 3), 3, none⟩,
      ⟨some 44, (.move (.tmp 55)), 3, none⟩])))))))
    (.seq (.reg [] [⟨some 2, (.assign (.const (.int .i64 0))), 29, none⟩])
    .ret))))))
theorem C27 {args : List AV} {r : AV} (hn : args.length ≤ 56) (h : vc Try.prog T [] A27 (Fin T [(.tmp 2)] r) ⟨envOf 0 args, []⟩) : CallP Try.prog 27 args r :=
  callP_of tok mixed Try.func27 (by kernel_rfl) (by kernel_rfl) (by kernel_rfl : Try.f27.ntmps = 56) (by kernel_rfl : Try.f27.body.bind (strip 56 (fun _ => [])) = some A27) hn h
def A32 : ACode :=
  (.seq (.reg [] [⟨some 4, (.assign (.const (.slice none 0 0))), 23, none⟩,
      ⟨some 5, (.assign (.const (.bool false))), 4, none⟩,
      ⟨some 6, (.assign (.const (.int .i64 0))), 29, none⟩])
    (.seq (.seq (.reg [] [⟨some 10, (.move (.tmp 0)), 22, none⟩,
      ⟨some 11, (.move (.tmp 1)), 3, none⟩,
      ⟨some 12, (.buildSlice 23 1 #[(0, (.tmp 11))]), 23, none⟩,
      ⟨some 13, (.call ⟨(.value (.func 65)), #[(.tmp 10), (.tmp 12)], #[22, 23]⟩), 29, none⟩,
      ⟨some 7, (.assign (.tmp 13)), 29, none⟩])
    (.seq (.reg [] [⟨some 14, (.move (.tmp 7)), 29, none⟩,
      ⟨some 15, (.binOp .neq 29 (.tmp 14) (.const (.int .i64 0)) 29), 4, none⟩])
    (.cond (.tmp 15)
    (.seq (.reg [] [⟨some 16, (.move (.tmp 7)), 29, none⟩,
      ⟨some 4, (.assign (.const (.slice none 0 0))), 23, none⟩,
      ⟨some 5, (.assign (.const (.bool false))), 4, none⟩,
      ⟨some 6, (.assign (.tmp 16)), 29, none⟩])
    .ret)
    .skip)))
    (.seq (.reg [] [⟨some 18, (.move (.tmp 0)), 22, none⟩,
      ⟨some 19, (.move (.tmp 1)), 3, none⟩,
      ⟨some 20, (.call ⟨(.value (.func 75)), #[(.tmp 18), (.tmp 19)], #[22, 3]⟩), 69, none⟩,
      ⟨some 17, (.move (.tmp 20)), 69, none⟩,
      ⟨some 21, (.extract (.tmp 17) 0), 23, none⟩,
      ⟨some 22, (.extract (.tmp 17) 1), 4, none⟩,
      ⟨some 8, (.assign (.tmp 21)), 23, none⟩,
      ⟨some 9, (.assign (.tmp 22)), 4, none⟩])
    (.seq (.reg [] [⟨some 23, (.move (.tmp 8)), 23, none⟩,
      ⟨some 24, (.move (.tmp 9)), 4, none⟩,
      ⟨some 4, (.assign (.tmp 23)), 23, none⟩,
      ⟨some 5, (.assign (.tmp 24)), 4, none⟩,
      ⟨some 6, (.assign (.const (.int .i64 0))), 29, none⟩])
    .ret))))
theorem C32 {args : List AV} {r : AV} (hn : args.length ≤ 25) (h : vc Try.prog T [] A32 (Fin T [(.tmp 4), (.tmp 5), (.tmp 6)] r) ⟨envOf 0 args, []⟩) : CallP Try.prog 32 args r :=
  callP_of tok mixed Try.func32 (by kernel_rfl) (by kernel_rfl) (by kernel_rfl : Try.f32.ntmps = 25) (by kernel_rfl : Try.f32.body.bind (strip 25 (fun _ => [])) = some A32) hn h
def A34 : ACode :=
  (.seq (.reg [] [⟨some 2, (.assign (.const (.int .i64 0))), 29, none⟩])
    (.seq (.seq (.reg [] [⟨some 5, (.move (.tmp 0)), 22, none⟩,
      ⟨some 6, (.call ⟨(.builtin .len), #[(.tmp 5)], #[22]⟩), 3, none⟩,
      ⟨some 7, (.call ⟨(.value (.func 72)), #[(.tmp 6), (.const (.int .i64 1)), (.const (.int .i64 6))], #[3, 3, 3]⟩), 4, none⟩,
      ⟨some 8, (.unOp .not 4 (.tmp 7)), 4, none⟩,
      ⟨some 9, (.move (.tmp 8)), 4, none⟩,
      ⟨some 10, (.move (.tmp 0)), 22, some (9, false)⟩,
      ⟨some 11, (.indexAddr 22 (.tmp 10) (.const (.int .i64 0))), 0, some (9, false)⟩,
      ⟨some 12, (.load 23 (.tmp 11)), 23, some (9, false)⟩,
      ⟨some 13, (.call ⟨(.builtin .len), #[(.tmp 12)], #[23]⟩), 3, some (9, false)⟩,
      ⟨some 14, (.binOp .gtr 3 (.tmp 13) (.const (.int .i64 6)) 3), 4, some (9, false)⟩,
      ⟨some 15, (.pick (.tmp 9) (.const (.bool true)) (.tmp 14)), 4, none⟩])
    (.cond (.tmp 15)
    (.seq (.reg [] [⟨some 2, (.assign (.const (.int .i64 3))), 29, none⟩])
    .ret)
    .skip))
    (.seq (.seq (.reg [] [⟨some 16, (.move (.tmp 0)), 22, none⟩,
      ⟨some 17, (.call ⟨(.builtin .len), #[(.tmp 16)], #[22]⟩), 3, none⟩,
      ⟨some 18, (.move (.const (.int .i64 0))), 3, none⟩])
    (.block 0 (.loop (.seq (.reg [] [⟨some 19, (.binOp .lss 3 (.tmp 18) (.tmp 17) 3), 0, none⟩])
    (.seq (.cond (.tmp 19)
    .skip
    (.exit 0))
    (.seq (.block 1 (.seq (.reg [] [⟨some 20, (.indexAddr 22 (.tmp 16) (.tmp 18)), 0, none⟩,
      ⟨some 21, (.load 23 (.tmp 20)), 23, none⟩,
      ⟨some 4, (.assign (.tmp 21)), 23, none⟩])
    (.seq (.reg [] [⟨some 22, (.move (.tmp 4)), 23, none⟩,
      ⟨some 23, (.call ⟨(.builtin .len), #[(.tmp 22)], #[23]⟩), 3, none⟩,
      ⟨some 24, (.move (.tmp 0)), 22, none⟩,
      ⟨some 25, (.indexAddr 22 (.tmp 24) (.const (.int .i64 0))), 0, none⟩,
      ⟨some 26, (.load 23 (.tmp 25)), 23, none⟩,
      ⟨some 27, (.call ⟨(.builtin .len), #[(.tmp 26)], #[23]⟩), 3, none⟩,
      ⟨some 28, (.binOp .neq 3 (.tmp 23) (.tmp 27) 3), 4, none⟩,
      ⟨some 29, (.move (.tmp 28)), 4, none⟩,
      ⟨some 30, (.move (.tmp 4)), 23, some (29, false)⟩,
      ⟨some 31, (.call ⟨(.value (.func 69)), #[(.tmp 30), (.func 76)], #[23, 80]⟩), 4, some (29, false)⟩,
      ⟨some 32, (.pick (.tmp 29) (.const (.bool true)) (.tmp 31)), 4, none⟩])
    (.cond (.tmp 32)
    (.seq (.reg [] [⟨some 2, (.assign (.const (.int .i64 1))), 29, none⟩])
    .ret)
    .skip))))
    (.reg [] [⟨some 33, (.binOp .add 3 (.tmp 18) (.const (.int .i64 1)) 3), 3, none⟩,
      ⟨some 18, (.move (.tmp 33)), 3, none⟩])))))))
    (.seq (.reg [] [⟨some 2, (.assign (.const (.int .i64 0))), 29, none⟩])
    .ret))))
theorem C34 {args : List AV} {r : AV} (hn : args.length ≤ 34) (h : vc Try.prog T [] A34 (Fin T [(.tmp 2)] r) ⟨envOf 0 args, []⟩) : CallP Try.prog 34 args r :=
  callP_of tok mixed Try.func34 (by kernel_rfl) (by kernel_rfl) (by kernel_rfl : Try.f34.ntmps = 34) (by kernel_rfl : Try.f34.body.bind (strip 34 (fun _ => [])) = some A34) hn h
def A39 : ACode :=
  (.seq (.reg [] [⟨some 2, (.assign (.const (.slice none 0 0))), 50, none⟩,
      ⟨some 3, (.assign (.const (.int .i64 0))), 29, none⟩])
    (.seq (.seq (.reg [] [⟨some 5, (.move (.tmp 0)), 22, none⟩,
      ⟨some 6, (.call ⟨(.value (.func 34)), #[(.tmp 5)], #[22]⟩), 29, none⟩,
      ⟨some 4, (.assign (.tmp 6)), 29, none⟩])
    (.seq (.reg [] [⟨some 7, (.move (.tmp 4)), 29, none⟩,
      ⟨some 8, (.binOp .neq 29 (.tmp 7) (.const (.int .i64 0)) 29), 4, none⟩])
    (.cond (.tmp 8)
    (.seq (.reg [] [⟨some 9, (.move (.tmp 4)), 29, none⟩,
      ⟨some 2, (.assign (.const (.slice none 0 0))), 50, none⟩,
      ⟨some 3, (.assign (.tmp 9)), 29, none⟩])
    .ret)
    .skip)))
    (.seq (.reg [] [⟨some 10, (.move (.tmp 0)), 22, none⟩,
      ⟨some 11, (.call ⟨(.value (.func 79)), #[(.tmp 10)], #[22]⟩), 50, none⟩,
      ⟨some 2, (.assign (.tmp 11)), 50, none⟩,
      ⟨some 3, (.assign (.const (.int .i64 0))), 29, none⟩])
    .ret)))
theorem C39 {args : List AV} {r : AV} (hn : args.length ≤ 12) (h : vc Try.prog T [] A39 (Fin T [(.tmp 2), (.tmp 3)] r) ⟨envOf 0 args, []⟩) : CallP Try.prog 39 args r :=
  callP_of tok mixed Try.func39 (by kernel_rfl) (by kernel_rfl) (by kernel_rfl : Try.f39.ntmps = 12) (by kernel_rfl : Try.f39.body.bind (strip 12 (fun _ => [])) = some A39) hn h
def A41 : ACode :=
  (.seq (.reg [] [⟨some 2, (.assign (.const (.bool false))), 4, none⟩,
      ⟨some 3, (.assign (.const (.int .i64 0))), 29, none⟩])
    (.seq (.seq (.reg [] [⟨some 5, (.move (.tmp 0)), 22, none⟩,
      ⟨some 6, (.call ⟨(.value (.func 34)), #[(.tmp 5)], #[22]⟩), 29, none⟩,
      ⟨some 4, (.assign (.tmp 6)), 29, none⟩])
    (.seq (.reg [] [⟨some 7, (.move (.tmp 4)), 29, none⟩,
      ⟨some 8, (.binOp .neq 29 (.tmp 7) (.const (.int .i64 0)) 29), 4, none⟩])
    (.cond (.tmp 8)
    (.seq (.reg [] [⟨some 9, (.move (.tmp 4)), 29, none⟩,
      ⟨some 2, (.assign (.const (.bool false))), 4, none⟩,
      ⟨some 3, (.assign (.tmp 9)), 29, none⟩])
    .ret)
    .skip)))
    (.seq (.reg [] [⟨some 10, (.move (.tmp 0)), 22, none⟩,
      ⟨some 11, (.call ⟨(.value (.func 79)), #[(.tmp 10)], #[22]⟩), 50, none⟩,
      ⟨some 12, (.call ⟨(.builtin .len), #[(.tmp 11)], #[50]⟩), 3, none⟩,
      ⟨some 13, (.binOp .eql 3 (.tmp 12) (.const (.int .i64 0)) 3), 4, none⟩,
      ⟨some 2, (.assign (.tmp 13)), 4, none⟩,
      ⟨some 3, (.assign (.const (.int .i64 0))), 29, none⟩])
    .ret)))
theorem C41 {args : List AV} {r : AV} (hn : args.length ≤ 14) (h : vc Try.prog T [] A41 (Fin T [(.tmp 2), (.tmp 3)] r) ⟨envOf 0 args, []⟩) : CallP Try.prog 41 args r :=
  callP_of tok mixed Try.func41 (by kernel_rfl) (by kernel_rfl) (by kernel_rfl : Try.f41.ntmps = 14) (by kernel_rfl : Try.f41.body.bind (strip 14 (fun _ => [])) = some A41) hn h
def A47 : ACode :=
  (.seq (.reg [] [⟨some 3, (.box 25 (.tmp 1)), 0, none⟩,
      ⟨some 4, (.assign (.const (.int .i64 0))), 3, none⟩,
      ⟨some 5, (.assign (.const (.bool false))), 4, none⟩,
      ⟨some 6, (.assign (.const (.int .i64 0))), 29, none⟩])
    (.seq (.seq (.reg [] [⟨some 12, (.move (.tmp 0)), 22, none⟩,
      ⟨some 13, (.load 25 (.tmp 3)), 25, none⟩,
      ⟨some 14, (.call ⟨(.value (.func 59)), #[(.tmp 12), (.tmp 13), (.const (.slice none 0 0))], #[22, 25, 23]⟩), 29, none⟩,
      ⟨some 7, (.assign (.tmp 14)), 29, none⟩])
    (.seq (.reg [] [⟨some 15, (.move (.tmp 7)), 29, none⟩,
      ⟨some 16, (.binOp .neq 29 (.tmp 15) (.const (.int .i64 0)) 29), 4, none⟩])
    (.cond (.tmp 16)
    (.seq (.reg [] [⟨some 17, (.move (.tmp 7)), 29, none⟩,
      ⟨some 4, (.assign (.const (.int .i64 0))), 3, none⟩,
      ⟨some 5, (.assign (.const (.bool false))), 4, none⟩,
      ⟨some 6, (.assign (.tmp 17)), 29, none⟩])
    .ret)
    .skip)))
    (.seq (.reg [] [⟨some 8, (.assign (.const (.int .i64 0))), 3, none⟩])
    (.seq (.seq (.reg [] [⟨some 18, (.move (.tmp 0)), 22, none⟩,
      ⟨some 19, (.indexAddr 22 (.tmp 18) (.const (.int .i64 0))), 0, none⟩,
      ⟨some 20, (.load 23 (.tmp 19)), 23, none⟩,
      ⟨some 21, (.call ⟨(.builtin .len), #[(.tmp 20)], #[23]⟩), 3, none⟩,
      ⟨some 22, (.move (.const (.int .i64 0))), 3, none⟩])
    (.block 0 (.loop (.seq (.reg [] [⟨some 23, (.binOp .lss 3 (.tmp 22) (.tmp 21) 3), 0, none⟩])
    (.seq (.cond (.tmp 23)
    .skip
    (.exit 0))
    (.seq (.block 1 (.seq (.reg [] [⟨some 24, (.move (.tmp 22)), 3, none⟩,
      ⟨some 9, (.assign (.tmp 24)), 3, none⟩])
    (.seq (.reg [] [⟨some 26, (.move (.tmp 0)), 22, none⟩,
      ⟨some 27, (.load 25 (.tmp 3)), 25, none⟩,
      ⟨some 28, (.move (.tmp 9)), 3, none⟩,
      ⟨some 29, (.call ⟨(.value (.func 60)), #[(.tmp 26), (.tmp 27), (.tmp 28)], #[22, 25, 3]⟩), 69, none⟩,
      ⟨some 25, (.move (.tmp 29)), 69, none⟩,
      ⟨some 30, (.extract (.tmp 25) 0), 23, none⟩,
      ⟨some 31, (.extract (.tmp 25) 1), 4, none⟩,
      ⟨some 10, (.assign (.tmp 30)), 23, none⟩,
      ⟨some 11, (.assign (.tmp 31)), 4, none⟩])
    (.seq (.seq (.reg [] [⟨some 32, (.move (.tmp 11)), 4, none⟩,
      ⟨some 33, (.unOp .not 4 (.tmp 32)), 4, none⟩])
    (.cond (.tmp 33)
    (.seq (.reg [] [⟨some 4, (.assign (.const (.int .i64 0))), 3, none⟩,
      ⟨some 5, (.assign (.const (.bool false))), 4, none⟩,
      ⟨some 6, (.assign (.const (.int .i64 0))), 29, none⟩])
    .ret)
    .skip))
    (.reg [] [⟨some 34, (.move (.tmp 8)), 3, none⟩,
      ⟨some 35, (.load 25 (.tmp 3)), 25, none⟩,
      ⟨some 36, (.move (.tmp 10)), 23, none⟩,
      ⟨some 37, (.call ⟨(.value (.func 61)), #[(.tmp 35), (.tmp 36)], #[25, 23]⟩), 3, none⟩,
      ⟨some 38, (.binOp .add 3 (.tmp 34) (.tmp 37) 3), 3, none⟩,
      ⟨some 8, (.assign (.tmp 38)), 3, none⟩])))))
    (.reg [] [⟨some 39, (.binOp .add 3 (.tmp 22) (.const (.int .i64 1)) 3), 3, none⟩,
      ⟨some 22, (.move (.tmp 39)), 3, none⟩])))))))
    (.seq (.reg [] [⟨some 40, (.move (.tmp 8)), 3, none⟩,
      ⟨some 4, (.assign (.tmp 40)), 3, none⟩,
      ⟨some 5, (.assign (.const (.bool true))), 4, none⟩,
      ⟨some 6, (.assign (.const (.int .i64 0))), 29, none⟩])
    .ret)))))
theorem C47 {args : List AV} {r : AV} (hn : args.length ≤ 41) (h : vc Try.prog T [] A47 (Fin T [(.tmp 4), (.tmp 5), (.tmp 6)] r) ⟨envOf 0 args, []⟩) : CallP Try.prog 47 args r :=
  callP_of tok mixed Try.func47 (by kernel_rfl) (by kernel_rfl) (by kernel_rfl : Try.f47.ntmps = 41) (by kernel_rfl : Try.f47.body.bind (strip 41 (fun _ => [])) = some A47) hn h
def A51 : ACode :=
  (.seq (.reg [] [⟨some 4, (.assign (.const (.slice none 0 0))), 22, none⟩,
      ⟨some 5, (.assign (.const (.int .i64 0))), 29, none⟩])
    (.seq (.seq (.reg [] [⟨some 9, (.move (.tmp 0)), 22, none⟩,
      ⟨some 10, (.move (.tmp 1)), 3, none⟩,
      ⟨some 11, (.buildSlice 23 1 #[(0, (.tmp 10))]), 23, none⟩,
      ⟨some 12, (.call ⟨(.value (.func 65)), #[(.tmp 9), (.tmp 11)], #[22, 23]⟩), 29, none⟩,
      ⟨some 6, (.assign (.tmp 12)), 29, none⟩])
    (.seq (.reg [] [⟨some 13, (.move (.tmp 6)), 29, none⟩,
      ⟨some 14, (.binOp .neq 29 (.tmp 13) (.const (.int .i64 0)) 29), 4, none⟩])
    (.cond (.tmp 14)
    (.seq (.reg [] [⟨some 15, (.move (.tmp 6)), 29, none⟩,
      ⟨some 4, (.assign (.const (.slice none 0 0))), 22, none⟩,
      ⟨some 5, (.assign (.tmp 15)), 29, none⟩])
    .ret)
    .skip)))
    (.seq (.seq (.reg [] [⟨some 16, (.move (.tmp 0)), 22, none⟩,
      ⟨some 17, (.indexAddr 22 (.tmp 16) (.const (.int .i64 0))), 0, none⟩,
      ⟨some 18, (.load 23 (.tmp 17)), 23, none⟩,
      ⟨some 19, (.call ⟨(.builtin .len), #[(.tmp 18)], #[23]⟩), 3, none⟩,
      ⟨some 20, (.binOp .eql 3 (.tmp 19) (.const (.int .i64 1)) 3), 4, none⟩])
    (.cond (.tmp 20)
    (.seq (.reg [] [⟨some 4, (.assign (.const (.slice none 0 0))), 22, none⟩,
      ⟨some 5, (.assign (.const (.int .i64 1))), 29, none⟩])
    .ret)
    .skip))
    (.seq (.reg [] [⟨some 21, (.move (.tmp 0)), 22, none⟩,
      ⟨some 22, (.call ⟨(.value (.func 84)), #[(.tmp 21)], #[22]⟩), 22, none⟩,
      ⟨some 7, (.assign (.tmp 22)), 22, none⟩])
    (.seq (.seq (.reg [] [⟨some 23, (.move (.tmp 7)), 22, none⟩,
      ⟨some 24, (.call ⟨(.builtin .len), #[(.tmp 23)], #[22]⟩), 3, none⟩,
      ⟨some 25, (.move (.const (.int .i64 0))), 3, none⟩])
    (.block 0 (.loop (.seq (.reg [] [⟨some 26, (.binOp .lss 3 (.tmp 25) (.tmp 24) 3), 0, none⟩])
    (.seq (.cond (.tmp 26)
    .skip
    (.exit 0))
    (.seq (.block 1 (.seq (.reg [] [⟨some 27, (.move (.tmp 25)), 3, none⟩,
      ⟨some 8, (.assign (.tmp 27)), 3, none⟩])
    (.reg [] [⟨some 28, (.move (.tmp 7)), 22, none⟩,
      ⟨some 29, (.move (.tmp 8)), 3, none⟩,
      ⟨some 30, (.move (.tmp 7)), 22, none⟩,
      ⟨some 31, (.move (.tmp 8)), 3, none⟩,
      ⟨some 32, (.indexAddr 22 (.tmp 30) (.tmp 31)), 0, none⟩,
      ⟨some 33, (.load 23 (.tmp 32)), 23, none⟩,
      ⟨some 34, (.move (.tmp 1)), 3, none⟩,
      ⟨some 35, (.move (.tmp 1)), 3, none⟩,
      ⟨some 36, (.binOp .add 3 (.tmp 35) (.const (.int .i64 1)) 3), 3, none⟩,
      ⟨some 37, (.call ⟨(.value (.func 85)), #[(.tmp 33), (.tmp 34), (.tmp 36)], #[23, 3, 3]⟩), 23, none⟩,
      ⟨some 38, (.indexAddr 22 (.tmp 28) (.tmp 29)), 0, none⟩,
      ⟨none, (.store 23 (.tmp 38) (.tmp 37)), 0, none⟩])))
    (.reg [] [⟨some 39, (.binOp .add 3 (.tmp 25) (.const (.int .i64 1)) 3), 3, none⟩,
      ⟨some 25, (.move (.tmp 39)), 3, none⟩])))))))
    (.seq (.reg [] [⟨some 40, (.move (.tmp 7)), 22, none⟩,
      ⟨some 4, (.assign (.tmp 40)), 22, none⟩,
      ⟨some 5, (.assign (.const (.int .i64 0))), 29, none⟩])
    .ret))))))
theorem C51 {args : List AV} {r : AV} (hn : args.length ≤ 41) (h : vc Try.prog T [] A51 (Fin T [(.tmp 4), (.tmp 5)] r) ⟨envOf 0 args, []⟩) : CallP Try.prog 51 args r :=
  callP_of tok mixed Try.func51 (by kernel_rfl) (by kernel_rfl) (by kernel_rfl : Try.f51.ntmps = 41) (by kernel_rfl : Try.f51.body.bind (strip 41 (fun _ => [])) = some A51) hn h
def A56 : ACode :=
  (.seq (.reg [] [⟨some 1, (.box 22 (.tmp 0)), 0, none⟩,
      ⟨some 2, (.assign (.const (.slice none 0 0))), 23, none⟩,
      ⟨some 3, (.assign (.const (.int .i64 0))), 29, none⟩])
    (.seq (.seq (.reg [] [⟨some 12, (.load 22 (.tmp 1)), 22, none⟩,
      ⟨some 13, (.call ⟨(.value (.func 34)), #[(.tmp 12)], #[22]⟩), 29, none⟩,
      ⟨some 4, (.assign (.tmp 13)), 29, none⟩])
    (.seq (.reg [] [⟨some 14, (.move (.tmp 4)), 29, none⟩,
      ⟨some 15, (.binOp .neq 29 (.tmp 14) (.const (.int .i64 0)) 29), 4, none⟩])
    (.cond (.tmp 15)
    (.seq (.reg [] [⟨some 16, (.move (.tmp 4)), 29, none⟩,
      ⟨some 2, (.assign (.const (.slice none 0 0))), 23, none⟩,
      ⟨some 3, (.assign (.tmp 16)), 29, none⟩])
    .ret)
    .skip)))
    (.seq (.reg [] [⟨some 5, (.assign (.const (.slice none 0 0))), 23, none⟩])
    (.seq (.seq (.reg [] [⟨some 17, (.load 22 (.tmp 1)), 22, none⟩,
      ⟨some 18, (.indexAddr 22 (.tmp 17) (.const (.int .i64 0))), 0, none⟩,
      ⟨some 19, (.load 23 (.tmp 18)), 23, none⟩,
      ⟨some 20, (.call ⟨(.builtin .len), #[(.tmp 19)], #[23]⟩), 3, none⟩,
      ⟨some 21, (.binOp .shl 3 (.const (.int .i64 1)) (.tmp 20) 3), 3, none⟩,
      ⟨some 22, (.move (.const (.int .i64 0))), 3, none⟩])
    (.block 0 (.loop (.seq (.reg [] [⟨some 23, (.binOp .lss 3 (.tmp 22) (.tmp 21) 3), 4, none⟩])
    (.seq (.cond (.tmp 23)
    .skip
    (.exit 0))
    (.seq (.block 1 (.seq (.reg [] [⟨some 24, (.move (.tmp 22)), 3, none⟩,
      ⟨some 6, (.assign (.tmp 24)), 3, none⟩])
    (.seq (.reg [] [⟨some 7, (.assign (.const (.slice none 0 0))), 23, none⟩])
    (.seq (.reg [] [⟨some 8, (.assign (.const (.bool true))), 4, none⟩])
    (.seq (.seq (.reg [] [⟨some 25, (.load 22 (.tmp 1)), 22, none⟩,
      ⟨some 26, (.indexAddr 22 (.tmp 25) (.const (.int .i64 0))), 0, none⟩,
      ⟨some 27, (.load 23 (.tmp 26)), 23, none⟩,
      ⟨some 28, (.call ⟨(.builtin .len), #[(.tmp 27)], #[23]⟩), 3, none⟩,
      ⟨some 29, (.move (.const (.int .i64 0))), 3, none⟩])
    (.block 2 (.loop (.seq (.reg [] [⟨some 30, (.binOp .lss 3 (.tmp 29) (.tmp 28) 3), 0, none⟩])
    (.seq (.cond (.tmp 30)
    .skip
    (.exit 2))
    (.seq (.block 3 (.seq (.reg [] [⟨some 31, (.move (.tmp 29)), 3, none⟩,
      ⟨some 9, (.alloc 3), 0, none⟩,
      ⟨none, (.store 3 (.tmp 9) (.tmp 31)), 0, none⟩])
    (.seq (.seq (.reg [] [⟨some 32, (.move (.tmp 6)), 3, none⟩,
      ⟨some 33, (.load 3 (.tmp 9)), 3, none⟩,
      ⟨some 34, (.binOp .shr 3 (.tmp 32) (.tmp 33) 3), 3, none⟩,
      ⟨some 35, (.binOp .and 3 (.tmp 34) (.const (.int .i64 1)) 3), 3, none⟩,
      ⟨some 36, (.binOp .eql 3 (.tmp 35) (.const (.int .i64 0)) 3), 4, none⟩])
    (.cond (.tmp 36)
    (.exit 3)
    .skip))
    (.seq (.reg [] [⟨some 38, (.load 22 (.tmp 1)), 22, none⟩,
      ⟨some 39, (.load 3 (.tmp 9)), 3, none⟩,
      ⟨some 40, (.call ⟨(.value (.func 75)), #[(.tmp 38), (.tmp 39)], #[22, 3]⟩), 69, none⟩,
      ⟨some 37, (.move (.tmp 40)), 69, none⟩,
      ⟨some 41, (.extract (.tmp 37) 0), 23, none⟩,
      ⟨some 42, (.extract (.tmp 37) 1), 4, none⟩,
      ⟨some 10, (.assign (.tmp 41)), 23, none⟩,
      ⟨some 11, (.assign (.tmp 42)), 4, none⟩])
    (.seq (.reg [] [⟨some 43, (.move (.tmp 8)), 4, none⟩,
      ⟨some 44, (.move (.tmp 43)), 4, none⟩,
      ⟨some 45, (.move (.tmp 11)), 4, some (44, true)⟩,
      ⟨some 46, (.pick (.tmp 44) (.tmp 45) (.const (.bool false))), 4, none⟩,
      ⟨some 47, (.move (.tmp 46)), 4, none⟩,
      ⟨some 48, (.move (.tmp 7)), 23, some (47, true)⟩,
      ⟨some 49, (.makeFunc (.func 87) #[] #[(.tmp 1), (.tmp 9)]), 80, some (47, true)⟩,
      ⟨some 50, (.call ⟨(.value (.func 69)), #[(.tmp 48), (.tmp 49)], #[23, 80]⟩), 4, some (47, true)⟩,
      ⟨some 51, (.unOp .not 4 (.tmp 50)), 4, some (47, true)⟩,
      ⟨some 52, (.pick (.tmp 47) (.tmp 51) (.const (.bool false))), 4, none⟩,
      ⟨some 8, (.assign (.tmp 52)), 4, none⟩])
    (.reg [] [⟨some 53, (.move (.tmp 7)), 23, none⟩,
      ⟨some 54, (.load 3 (.tmp 9)), 3, none⟩,
      ⟨some 55, (.buildSlice 23 1 #[(0, (.tmp 54))]), 23, none⟩,
      ⟨some 56, (.call ⟨(.builtin .append), #[(.tmp 53), (.tmp 55)], #[23, 23]⟩), 23, none⟩,
      ⟨some 7, (.assign (.tmp 56)), 23, none⟩]))))))
    (.reg [] [⟨some 57, (.binOp .add 3 (.tmp 29) (.const (.int .i64 1)) 3), 3, none⟩,
      ⟨some 29, (.move (.tmp 57)), 3, none⟩])))))))
    (.seq (.reg [] [⟨some 58, (.move (.tmp 8)), 4, none⟩,
      ⟨some 59, (.move (.tmp 58)), 4, none⟩,
      ⟨some 60, (.move (.tmp 7)), 23, some (59, true)⟩,
      ⟨some 61, (.call ⟨(.builtin .len), #[(.tmp 60)], #[23]⟩), 3, some (59, true)⟩,
      ⟨some 62, (.move (.tmp 5)), 23, some (59, true)⟩,
      ⟨some 63, (.call ⟨(.builtin .len), #[(.tmp 62)], #[23]⟩), 3, some (59, true)⟩,
      ⟨some 64, (.binOp .gtr 3 (.tmp 61) (.tmp 63) 3), 4, some (59, true)⟩,
      ⟨some 65, (.move (.tmp 64)), 4, some (59, true)⟩,
      ⟨some 66, (.move (.tmp 7)), 23, some (65, false)⟩,
      ⟨some 67, (.call ⟨(.builtin .len), #[(.tmp 66)], #[23]⟩), 3, some (65, false)⟩,
      ⟨some 68, (.move (.tmp 5)), 23, some (65, false)⟩,
      ⟨some 69, (.call ⟨(.builtin .len), #[(.tmp 68)], #[23]⟩), 3, some (65, false)⟩,
      ⟨some 70, (.binOp .eql 3 (.tmp 67) (.tmp 69) 3), 4, some (65, false)⟩,
      ⟨some 71, (.move (.tmp 70)), 4, some (65, false)⟩,
      ⟨some 72, (.move (.tmp 7)), 23, some (71, true)⟩,
      ⟨some 73, (.move (.tmp 5)), 23, some (71, true)⟩,
      ⟨some 74, (.call ⟨(.value (.func 88)), #[(.tmp 72), (.tmp 73)], #[23, 23]⟩), 3, some (71, true)⟩,
      ⟨some 75, (.binOp .lss 3 (.tmp 74) (.const (.int .i64 0)) 3), 4, some (71, true)⟩,
      ⟨some 76, (.pick (.tmp 71) (.tmp 75) (.const (.bool false))), 4, some (65, false)⟩,
      ⟨some 77, (.pick (.tmp 65) (.const (.bool true)) (.tmp 76)), 4, some (59, true)⟩,
      ⟨some 78, (.pick (.tmp 59) (.tmp 77) (.const (.bool false))), 4, none⟩])
    (.cond (.tmp 78)
    (.reg [] [⟨some 79, (.move (.tmp 7)), 23, none⟩,
      ⟨some 5, (.assign (.tmp 79)), 23, none⟩])
    .skip)))))))
    (.reg [] [⟨some 80, (.binOp .add 3 (.tmp 22) (.const (.int .i64 1)) 3), 3, none⟩,
      ⟨some 22, (.move (.tmp 80)), 3, none⟩])))))))
    (.seq (.reg [] [⟨some 81, (.move (.tmp 5)), 23, none⟩,
      ⟨some 2, (.assign (.tmp 81)), 23, none⟩,
      ⟨some 3, (.assign (.const (.int .i64 0))), 29, none⟩])
    .ret)))))
theorem C56 {args : List AV} {r : AV} (hn : args.length ≤ 82) (h : vc Try.prog T [] A56 (Fin T [(.tmp 2), (.tmp 3)] r) ⟨envOf 0 args, []⟩) : CallP Try.prog 56 args r :=
  callP_of tok mixed Try.func56 (by kernel_rfl) (by kernel_rfl) (by kernel_rfl : Try.f56.ntmps = 82) (by kernel_rfl : Try.f56.body.bind (strip 82 (fun _ => [])) = some A56) hn h
def A58 : ACode :=
  (.seq (.reg [] [⟨some 2, (.alloc 25), 0, none⟩,
      ⟨some 3, (.assign (.const (.bool false))), 4, none⟩,
      ⟨some 4, (.assign (.const (.int .i64 0))), 29, none⟩])
    (.seq (.seq (.reg [] [⟨some 15, (.move (.tmp 0)), 22, none⟩,
      ⟨some 16, (.call ⟨(.value (.func 34)), #[(.tmp 15)], #[22]⟩), 29, none⟩,
      ⟨some 5, (.assign (.tmp 16)), 29, none⟩])
    (.seq (.reg [] [⟨some 17, (.move (.tmp 5)), 29, none⟩,
      ⟨some 18, (.binOp .neq 29 (.tmp 17) (.const (.int .i64 0)) 29), 4, none⟩])
    (.cond (.tmp 18)
    (.seq (.reg [] [⟨some 19, (.build 25 #[]), 25, none⟩,
      ⟨some 20, (.move (.tmp 5)), 29, none⟩,
      ⟨none, (.store 25 (.tmp 2) (.tmp 19)), 0, none⟩,
      ⟨some 3, (.assign (.const (.bool false))), 4, none⟩,
      ⟨some 4, (.assign (.tmp 20)), 29, none⟩])
    .ret)
    .skip)))
    (.seq (.seq (.reg [] [⟨some 21, (.move (.tmp 0)), 22, none⟩,
      ⟨some 22, (.call ⟨(.value (.func 79)), #[(.tmp 21)], #[22]⟩), 50, none⟩,
      ⟨some 23, (.call ⟨(.builtin .len), #[(.tmp 22)], #[50]⟩), 3, none⟩,
      ⟨some 24, (.binOp .gtr 3 (.tmp 23) (.const (.int .i64 0)) 3), 4, none⟩])
    (.cond (.tmp 24)
    (.seq (.reg [] [⟨some 25, (.build 25 #[]), 25, none⟩,
      ⟨none, (.store 25 (.tmp 2) (.tmp 25)), 0, none⟩,
      ⟨some 3, (.assign (.const (.bool false))), 4, none⟩,
      ⟨some 4, (.assign (.const (.int .i64 0))), 29, none⟩])
    .ret)
    .skip))
    (.seq (.reg [] [⟨some 6, (.assign (.const (.slice none 0 0))), 22, none⟩])
    (.seq (.seq (.reg [] [⟨some 26, (.move (.tmp 0)), 22, none⟩,
      ⟨some 27, (.indexAddr 22 (.tmp 26) (.const (.int .i64 0))), 0, none⟩,
      ⟨some 28, (.load 23 (.tmp 27)), 23, none⟩,
      ⟨some 29, (.call ⟨(.builtin .len), #[(.tmp 28)], #[23]⟩), 3, none⟩,
      ⟨some 30, (.move (.const (.int .i64 0))), 3, none⟩])
    (.block 0 (.loop (.seq (.reg [] [⟨some 31, (.binOp .lss 3 (.tmp 30) (.tmp 29) 3), 0, none⟩])
    (.seq (.cond (.tmp 31)
    .skip
    (.exit 0))
    (.seq (.block 1 (.seq (.reg [] [⟨some 32, (.move (.tmp 30)), 3, none⟩,
      ⟨some 7, (.assign (.tmp 32)), 3, none⟩])
    (.seq (.reg [] [⟨some 34, (.move (.tmp 0)), 22, none⟩,
      ⟨some 35, (.move (.tmp 7)), 3, none⟩,
      ⟨some 36, (.call ⟨(.value (.func 75)), #[(.tmp 34), (.tmp 35)], #[22, 3]⟩), 69, none⟩,
      ⟨some 33, (.move (.tmp 36)), 69, none⟩,
      ⟨some 37, (.extract (.tmp 33) 0), 23, none⟩,
      ⟨some 38, (.extract (.tmp 33) 1), 4, none⟩,
      ⟨some 8, (.assign (.tmp 37)), 23, none⟩,
      ⟨some 9, (.assign (.tmp 38)), 4, none⟩])
    (.seq (.reg [] [⟨some 39, (.move (.tmp 9)), 4, none⟩])
    (.cond (.tmp 39)
    (.reg [] [⟨some 40, (.move (.tmp 6)), 22, none⟩,
      ⟨some 41, (.move (.tmp 8)), 23, none⟩,
      ⟨some 42, (.buildSlice 22 1 #[(0, (.tmp 41))]), 22, none⟩,
      ⟨some 43, (.call ⟨(.builtin .append), #[(.tmp 40), (.tmp 42)], #[22, 22]⟩), 22, none⟩,
      ⟨some 6, (.assign (.tmp 43)), 22, none⟩])
    .skip)))))
    (.reg [] [⟨some 44, (.binOp .add 3 (.tmp 30) (.const (.int .i64 1)) 3), 3, none⟩,
      ⟨some 30, (.move (.tmp 44)), 3, none⟩])))))))
    (.seq (.reg [] [⟨some 45, (.move (.tmp 6)), 22, none⟩,
      ⟨some 46, (.call ⟨(.value (.func 90)), #[(.tmp 45), (.func 91)], #[22, 89]⟩), 0, none⟩])
    (.seq (.reg [] [⟨some 47, (.move (.tmp 6)), 22, none⟩,
      ⟨some 48, (.call ⟨(.value (.func 92)), #[(.tmp 47), (.func 82)], #[22, 46]⟩), 22, none⟩,
      ⟨some 6, (.assign (.tmp 48)), 22, none⟩])
    (.seq (.reg [] [⟨some 49, (.buildSlice 23 1 #[(0, (.const (.int .i64 (-1))))]), 23, none⟩,
      ⟨some 50, (.move (.tmp 0)), 22, none⟩,
      ⟨some 51, (.call ⟨(.builtin .len), #[(.tmp 50)], #[22]⟩), 3, none⟩,
      ⟨some 52, (.makeSlice 23 (.tmp 51) (.tmp 51)), 23, none⟩,
      ⟨some 53, (.build 25 #[(0, (.tmp 49)), (1, (.tmp 52))]), 25, none⟩,
      ⟨some 10, (.alloc 25), 0, none⟩,
      ⟨none, (.store 25 (.tmp 10) (.tmp 53)), 0, none⟩])
    (.seq (.seq (.reg [] [⟨some 54, (.move (.tmp 6)), 22, none⟩,
      ⟨some 55, (.call ⟨(.builtin .len), #[(.tmp 54)], #[22]⟩), 3, none⟩,
      ⟨some 56, (.move (.const (.int .i64 0))), 3, none⟩])
    (.block 2 (.loop (.seq (.reg [] [⟨some 57, (.binOp .lss 3 (.tmp 56) (.tmp 55) 3), 0, none⟩])
    (.seq (.cond (.tmp 57)
    .skip
    (.exit 2))
    (.seq (.block 3 (.seq (.reg [] [⟨some 58, (.move (.tmp 56)), 3, none⟩,
      ⟨some 59, (.indexAddr 22 (.tmp 54) (.tmp 56)), 0, none⟩,
      ⟨some 60, (.load 23 (.tmp 59)), 23, none⟩,
      ⟨some 11, (.assign (.tmp 58)), 3, none⟩,
      ⟨some 12, (.assign (.tmp 60)), 23, none⟩])
    (.seq (.draw [] [⟨some 61, (.fieldAddr 25 (.tmp 10) 0), 0, none⟩,
      ⟨some 62, (.load 23 (.tmp 61)), 23, none⟩,
      ⟨some 63, (.fieldAddr 25 (.tmp 10) 1), 0, none⟩,
      ⟨some 64, (.load 23 (.tmp 63)), 23, none⟩,
      ⟨some 65, (.move (.tmp 12)), 23, none⟩,
      ⟨some 66, (.indexAddr 23 (.tmp 65) (.const (.int .i64 0))), 0, none⟩,
      ⟨some 67, (.load 3 (.tmp 66)), 3, none⟩,
      ⟨some 68, (.indexAddr 23 (.tmp 64) (.tmp 67)), 0, none⟩,
      ⟨some 69, (.load 3 (.tmp 68)), 3, none⟩,
      ⟨some 70, (.buildSlice 23 1 #[(0, (.tmp 69))]), 23, none⟩,
      ⟨some 71, (.call ⟨(.builtin .append), #[(.tmp 62), (.tmp 70)], #[23, 23]⟩), 23, none⟩,
      ⟨some 72, (.fieldAddr 25 (.tmp 10) 0), 0, none⟩,
      ⟨none, (.store 23 (.tmp 72) (.tmp 71)), 0, none⟩] [(0, 2), (1, 2), (0, 3), (1, 3), (0, 4), (1, 4), (2, 4), (3, 4), (0, 5), (1, 5), (2, 5), (3, 5), (0, 6), (1, 6), (2, 6), (3, 6), (0, 7), (1, 7), (0, 8), (1, 8), (0, 9), (1, 9)])
    (.seq (.reg [] [⟨some 73, (.move (.tmp 12)), 23, none⟩,
      ⟨some 74, (.call ⟨(.builtin .len), #[(.tmp 73)], #[23]⟩), 3, none⟩,
      ⟨some 75, (.move (.const (.int .i64 0))), 3, none⟩])
    (.block 4 (.loop (.seq (.reg [] [⟨some 76, (.binOp .lss 3 (.tmp 75) (.tmp 74) 3), 0, none⟩])
    (.seq (.cond (.tmp 76)
    .skip
    (.exit 4))
    (.seq (.block 5 (.seq (.reg [] [⟨some 77, (.indexAddr 23 (.tmp 73) (.tmp 75)), 0, none⟩,
      ⟨some 78, (.load 3 (.tmp 77)), 3, none⟩,
      ⟨some 14, (.assign (.tmp 78)), 3, none⟩])
    (.reg [] [⟨some 79, (.fieldAddr 25 (.tmp 10) 1), 0, none⟩,
      ⟨some 80, (.load 23 (.tmp 79)), 23, none⟩,
      ⟨some 81, (.move (.tmp 14)), 3, none⟩,
      ⟨some 82, (.move (.tmp 11)), 3, none⟩,
      ⟨some 83, (.binOp .add 3 (.tmp 82) (.const (.int .i64 1)) 3), 3, none⟩,
      ⟨some 84, (.indexAddr 23 (.tmp 80) (.tmp 81)), 0, none⟩,
      ⟨none, (.store 3 (.tmp 84) (.tmp 83)), 0, none⟩])))
    (.reg [] [⟨some 85, (.binOp .add 3 (.tmp 75) (.const (.int .i64 1)) 3), 3, none⟩,
      ⟨some 75, (.move (.tmp 85)), 3, none⟩]))))))))))
    (.reg [] [⟨some 86, (.binOp .add 3 (.tmp 56) (.const (.int .i64 1)) 3), 3, none⟩,
      ⟨some 56, (.move (.tmp 86)), 3, none⟩])))))))
    (.seq (.reg [] [⟨some 87, (.load 25 (.tmp 10)), 25, none⟩,
      ⟨none, (.store 25 (.tmp 2) (.tmp 87)), 0, none⟩,
      ⟨some 3, (.assign (.const (.bool true))), 4, none⟩,
      ⟨some 4, (.assign (.const (.int .i64 0))), 29, none⟩])
    .ret))))))))))
theorem C58 {args : List AV} {r : AV} (hn : args.length ≤ 88) (h : vc Try.prog T [] A58 (Fin T [(.cell 2 25), (.tmp 3), (.tmp 4)] r) ⟨envOf 0 args, []⟩) : CallP Try.prog 58 args r :=
  callP_of tok mixed Try.func58 (by kernel_rfl) (by kernel_rfl) (by kernel_rfl : Try.f58.ntmps = 88) (by kernel_rfl : Try.f58.body.bind (strip 88 (fun _ => [])) = some A58) hn h
def A59 : ACode :=
  (.seq (.reg [] [⟨some 4, (.box 25 (.tmp 1)), 0, none⟩,
      ⟨some 6, (.assign (.const (.int .i64 0))), 29, none⟩])
    (.seq (.seq (.reg [] [⟨some 9, (.move (.tmp 0)), 22, none⟩,
      ⟨some 10, (.call ⟨(.value (.func 34)), #[(.tmp 9)], #[22]⟩), 29, none⟩,
      ⟨some 7, (.assign (.tmp 10)), 29, none⟩])
    (.seq (.reg [] [⟨some 11, (.move (.tmp 7)), 29, none⟩,
      ⟨some 12, (.binOp .neq 29 (.tmp 11) (.const (.int .i64 0)) 29), 4, none⟩])
    (.cond (.tmp 12)
    (.seq (.reg [] [⟨some 13, (.move (.tmp 7)), 29, none⟩,
      ⟨some 6, (.assign (.tmp 13)), 29, none⟩])
    .ret)
    .skip)))
    (.seq (.seq (.reg [] [⟨some 14, (.load 25 (.tmp 4)), 25, none⟩,
      ⟨some 15, (.call ⟨(.value (.func 27)), #[(.tmp 14)], #[25]⟩), 29, none⟩,
      ⟨some 8, (.assign (.tmp 15)), 29, none⟩])
    (.seq (.reg [] [⟨some 16, (.move (.tmp 8)), 29, none⟩,
      ⟨some 17, (.binOp .neq 29 (.tmp 16) (.const (.int .i64 0)) 29), 4, none⟩])
    (.cond (.tmp 17)
    (.seq (.reg [] [⟨some 18, (.move (.tmp 8)), 29, none⟩,
      ⟨some 6, (.assign (.tmp 18)), 29, none⟩])
    .ret)
    .skip)))
    (.seq (.seq (.reg [] [⟨some 19, (.fieldAddr 25 (.tmp 4) 1), 0, none⟩,
      ⟨some 20, (.load 23 (.tmp 19)), 23, none⟩,
      ⟨some 21, (.call ⟨(.builtin .len), #[(.tmp 20)], #[23]⟩), 3, none⟩,
      ⟨some 22, (.move (.tmp 0)), 22, none⟩,
      ⟨some 23, (.call ⟨(.builtin .len), #[(.tmp 22)], #[22]⟩), 3, none⟩,
      ⟨some 24, (.binOp .neq 3 (.tmp 21) (.tmp 23) 3), 4, none⟩])
    (.cond (.tmp 24)
    (.seq (.reg [] [⟨some 6, (.assign (.const (.int .i64 9))), 29, none⟩])
    .ret)
    .skip))
    (.seq (.reg [] [⟨some 25, (.move (.tmp 0)), 22, none⟩,
      ⟨some 26, (.move (.tmp 2)), 23, none⟩,
      ⟨some 27, (.call ⟨(.value (.func 65)), #[(.tmp 25), (.tmp 26)], #[22, 23]⟩), 29, none⟩,
      ⟨some 6, (.assign (.tmp 27)), 29, none⟩])
    .ret)))))
theorem C59 {args : List AV} {r : AV} (hn : args.length ≤ 28) (h : vc Try.prog T [] A59 (Fin T [(.tmp 6)] r) ⟨envOf 0 args, []⟩) : CallP Try.prog 59 args r :=
  callP_of tok mixed Try.func59 (by kernel_rfl) (by kernel_rfl) (by kernel_rfl : Try.f59.ntmps = 28) (by kernel_rfl : Try.f59.body.bind (strip 28 (fun _ => [])) = some A59) hn h
def A61 : ACode :=
  (.seq (.reg [] [⟨some 2, (.box 25 (.tmp 0)), 0, none⟩,
      ⟨some 4, (.assign (.const (.int .i64 0))), 3, none⟩])
    (.seq (.reg [] [⟨some 5, (.assign (.const (.int .i64 0))), 3, none⟩])
    (.seq (.seq (.reg [] [⟨some 6, (.assign (.const (.int .i64 1))), 3, none⟩])
    (.block 0 (.loop (.seq (.seq (.reg [] [⟨some 7, (.move (.tmp 6)), 3, none⟩,
      ⟨some 8, (.move (.tmp 1)), 23, none⟩,
      ⟨some 9, (.call ⟨(.builtin .len), #[(.tmp 8)], #[23]⟩), 3, none⟩,
      ⟨some 10, (.binOp .lss 3 (.tmp 7) (.tmp 9) 3), 4, none⟩])
    (.cond (.tmp 10)
    .skip
    (.exit 0)))
    (.seq (.block 1 (.seq (.draw [] [⟨some 13, (.move (.tmp 1)), 23, none⟩,
      ⟨some 14, (.move (.tmp 6)), 3, none⟩,
      ⟨some 15, (.indexAddr 23 (.tmp 13) (.tmp 14)), 0, none⟩,
      ⟨some 16, (.load 3 (.tmp 15)), 3, none⟩,
      ⟨some 17, (.move (.tmp 1)), 23, none⟩,
      ⟨some 18, (.fieldAddr 25 (.tmp 2) 0), 0, none⟩,
      ⟨some 19, (.load 23 (.tmp 18)), 23, none⟩,
      ⟨some 20, (.move (.tmp 6)), 3, none⟩,
      ⟨some 21, (.indexAddr 23 (.tmp 19) (.tmp 20)), 0, none⟩,
      ⟨some 22, (.load 3 (.tmp 21)), 3, none⟩,
      ⟨some 23, (.indexAddr 23 (.tmp 17) (.tmp 22)), 0, none⟩,
      ⟨some 24, (.load 3 (.tmp 23)), 3, none⟩,
      ⟨some 25, (.binOp .neq 3 (.tmp 16) (.tmp 24) 3), 4, none⟩] [(0, 1), (0, 4), (1, 4), (2, 4), (3, 4), (0, 5), (1, 5), (2, 5), (3, 5), (4, 5), (0, 6), (1, 6), (2, 6), (3, 6), (4, 6), (0, 7), (1, 7), (2, 7), (3, 7), (4, 7), (5, 7), (6, 7), (0, 8), (1, 8), (2, 8), (3, 8), (4, 8), (0, 9), (1, 9), (2, 9), (3, 9), (4, 9), (0, 10), (1, 10), (2, 10), (3, 10), (0, 11), (1, 11), (2, 11), (3, 11)])
    (.cond (.tmp 25)
    (.reg [] [⟨some 26, (.move (.tmp 5)), 3, none⟩,
      ⟨some 27, (.binOp .add 3 (.tmp 26) (.const (.int .i64 1)) 3), 3, none⟩,
      ⟨some 5, (.assign (.tmp 27)), 3, none⟩])
    .skip)))
    (.reg [] [⟨some 11, (.move (.tmp 6)), 3, none⟩,
      ⟨some 12, (.binOp .add 3 (.tmp 11) (.const (.int .i64 1)) 3), 3, none⟩,
      ⟨some 6, (.assign (.tmp 12)), 3, none⟩]))))))
    (.seq (.reg [] [⟨some 28, (.move (.tmp 5)), 3, none⟩,
      ⟨some 4, (.assign (.tmp 28)), 3, none⟩])
    .ret))))
theorem C61 {args : List AV} {r : AV} (hn : args.length ≤ 29) (h : vc Try.prog T [] A61 (Fin T [(.tmp 4)] r) ⟨envOf 0 args, []⟩) : CallP Try.prog 61 args r :=
  callP_of tok mixed Try.func61 (by kernel_rfl) (by kernel_rfl) (by kernel_rfl : Try.f61.ntmps = 29) (by kernel_rfl : Try.f61.body.bind (strip 29 (fun _ => [])) = some A61) hn h
def A65 : ACode :=
  (.seq (.reg [] [⟨some 4, (.assign (.const (.int .i64 0))), 29, none⟩])
    (.seq (.seq (.reg [] [⟨some 8, (.move (.tmp 0)), 22, none⟩,
      ⟨some 9, (.call ⟨(.value (.func 34)), #[(.tmp 8)], #[22]⟩), 29, none⟩,
      ⟨some 5, (.assign (.tmp 9)), 29, none⟩])
    (.seq (.reg [] [⟨some 10, (.move (.tmp 5)), 29, none⟩,
      ⟨some 11, (.binOp .neq 29 (.tmp 10) (.const (.int .i64 0)) 29), 4, none⟩])
    (.cond (.tmp 11)
    (.seq (.reg [] [⟨some 12, (.move (.tmp 5)), 29, none⟩,
      ⟨some 4, (.assign (.tmp 12)), 29, none⟩])
    .ret)
    .skip)))
    (.seq (.seq (.reg [] [⟨some 13, (.move (.tmp 1)), 23, none⟩,
      ⟨some 14, (.call ⟨(.builtin .len), #[(.tmp 13)], #[23]⟩), 3, none⟩,
      ⟨some 15, (.move (.const (.int .i64 0))), 3, none⟩])
    (.block 0 (.loop (.seq (.reg [] [⟨some 16, (.binOp .lss 3 (.tmp 15) (.tmp 14) 3), 0, none⟩])
    (.seq (.cond (.tmp 16)
    .skip
    (.exit 0))
    (.seq (.block 1 (.seq (.reg [] [⟨some 17, (.indexAddr 23 (.tmp 13) (.tmp 15)), 0, none⟩,
      ⟨some 18, (.load 3 (.tmp 17)), 3, none⟩,
      ⟨some 7, (.assign (.tmp 18)), 3, none⟩])
    (.seq (.reg [] [⟨some 19, (.move (.tmp 7)), 3, none⟩,
      ⟨some 20, (.move (.tmp 0)), 22, none⟩,
      ⟨some 21, (.indexAddr 22 (.tmp 20) (.const (.int .i64 0))), 0, none⟩,
      ⟨some 22, (.load 23 (.tmp 21)), 23, none⟩,
      ⟨some 23, (.call ⟨(.builtin .len), #[(.tmp 22)], #[23]⟩), 3, none⟩,
      ⟨some 24, (.binOp .sub 3 (.tmp 23) (.const (.int .i64 1)) 3), 3, none⟩,
      ⟨some 25, (.call ⟨(.value (.func 72)), #[(.tmp 19), (.const (.int .i64 0)), (.tmp 24)], #[3, 3, 3]⟩), 4, none⟩,
      ⟨some 26, (.unOp .not 4 (.tmp 25)), 4, none⟩])
    (.cond (.tmp 26)
    (.seq (.reg [] [⟨some 4, (.assign (.const (.int .i64 4))), 29, none⟩])
    .ret)
    .skip))))
    (.reg [] [⟨some 27, (.binOp .add 3 (.tmp 15) (.const (.int .i64 1)) 3), 3, none⟩,
      ⟨some 15, (.move (.tmp 27)), 3, none⟩])))))))
    (.seq (.reg [] [⟨some 4, (.assign (.const (.int .i64 0))), 29, none⟩])
    .ret))))
theorem C65 {args : List AV} {r : AV} (hn : args.length ≤ 28) (h : vc Try.prog T [] A65 (Fin T [(.tmp 4)] r) ⟨envOf 0 args, []⟩) : CallP Try.prog 65 args r :=
  callP_of tok mixed Try.func65 (by kernel_rfl) (by kernel_rfl) (by kernel_rfl : Try.f65.ntmps = 28) (by kernel_rfl : Try.f65.body.bind (strip 28 (fun _ => [])) = some A65) hn h
def A66 : ACode :=
  (.seq (.reg [] [⟨some 2, (.assign (.const (.int .i64 0))), 3, none⟩])
    (.seq (.reg [] [⟨some 3, (.move (.tmp 0)), 23, none⟩,
      ⟨some 4, (.call ⟨(.value (.func 95)), #[(.tmp 3)], #[23]⟩), 23, none⟩,
      ⟨some 0, (.assign (.tmp 4)), 23, none⟩])
    (.seq (.reg [] [⟨some 5, (.move (.tmp 0)), 23, none⟩,
      ⟨some 6, (.call ⟨(.value (.func 96)), #[(.tmp 5)], #[23]⟩), 0, none⟩])
    (.seq (.reg [] [⟨some 7, (.move (.tmp 0)), 23, none⟩,
      ⟨some 8, (.call ⟨(.value (.func 97)), #[(.tmp 7)], #[23]⟩), 23, none⟩,
      ⟨some 9, (.call ⟨(.builtin .len), #[(.tmp 8)], #[23]⟩), 3, none⟩,
      ⟨some 2, (.assign (.tmp 9)), 3, none⟩])
    .ret))))
theorem C66 {args : List AV} {r : AV} (hn : args.length ≤ 10) (h : vc Try.prog T [] A66 (Fin T [(.tmp 2)] r) ⟨envOf 0 args, []⟩) : CallP Try.prog 66 args r :=
  callP_of tok mixed Try.func66 (by kernel_rfl) (by kernel_rfl) (by kernel_rfl : Try.f66.ntmps = 10) (by kernel_rfl : Try.f66.body.bind (strip 10 (fun _ => [])) = some A66) hn h
def A67 : ACode :=
  (.seq (.reg [] [⟨some 4, (.assign (.const (.slice none 0 0))), 23, none⟩])
    (.seq (.reg [] [⟨some 5, (.assign (.const (.slice none 0 0))), 23, none⟩])
    (.seq (.seq (.reg [] [⟨some 8, (.move (.tmp 0)), 22, none⟩,
      ⟨some 9, (.call ⟨(.builtin .len), #[(.tmp 8)], #[22]⟩), 3, none⟩,
      ⟨some 10, (.move (.const (.int .i64 0))), 3, none⟩])
    (.block 0 (.loop (.seq (.reg [] [⟨some 11, (.binOp .lss 3 (.tmp 10) (.tmp 9) 3), 0, none⟩])
    (.seq (.cond (.tmp 11)
    .skip
    (.exit 0))
    (.seq (.block 1 (.seq (.reg [] [⟨some 12, (.indexAddr 22 (.tmp 8) (.tmp 10)), 0, none⟩,
      ⟨some 13, (.load 23 (.tmp 12)), 23, none⟩,
      ⟨some 7, (.assign (.tmp 13)), 23, none⟩])
    (.reg [] [⟨some 14, (.move (.tmp 5)), 23, none⟩,
      ⟨some 15, (.move (.tmp 7)), 23, none⟩,
      ⟨some 16, (.move (.tmp 1)), 3, none⟩,
      ⟨some 17, (.indexAddr 23 (.tmp 15) (.tmp 16)), 0, none⟩,
      ⟨some 18, (.load 3 (.tmp 17)), 3, none⟩,
      ⟨some 19, (.buildSlice 23 1 #[(0, (.tmp 18))]), 23, none⟩,
      ⟨some 20, (.call ⟨(.builtin .append), #[(.tmp 14), (.tmp 19)], #[23, 23]⟩), 23, none⟩,
      ⟨some 5, (.assign (.tmp 20)), 23, none⟩])))
    (.reg [] [⟨some 21, (.binOp .add 3 (.tmp 10) (.const (.int .i64 1)) 3), 3, none⟩,
      ⟨some 10, (.move (.tmp 21)), 3, none⟩])))))))
    (.seq (.reg [] [⟨some 22, (.move (.tmp 5)), 23, none⟩,
      ⟨some 4, (.assign (.tmp 22)), 23, none⟩])
    .ret))))
theorem C67 {args : List AV} {r : AV} (hn : args.length ≤ 23) (h : vc Try.prog T [] A67 (Fin T [(.tmp 4)] r) ⟨envOf 0 args, []⟩) : CallP Try.prog 67 args r :=
  callP_of tok mixed Try.func67 (by kernel_rfl) (by kernel_rfl) (by kernel_rfl : Try.f67.ntmps = 23) (by kernel_rfl : Try.f67.body.bind (strip 23 (fun _ => [])) = some A67) hn h
def A70 : ACode :=
  (.seq (.reg [] [⟨some 2, (.assign (.const (.bool false))), 4, none⟩])
    (.seq (.reg [] [⟨some 3, (.move (.tmp 0)), 3, none⟩,
      ⟨some 4, (.call ⟨(.value (.func 71)), #[(.tmp 3)], #[3]⟩), 4, none⟩,
      ⟨some 5, (.unOp .not 4 (.tmp 4)), 4, none⟩,
      ⟨some 2, (.assign (.tmp 5)), 4, none⟩])
    .ret))
theorem C70 {args : List AV} {r : AV} (hn : args.length ≤ 6) (h : vc Try.prog T [] A70 (Fin T [(.tmp 2)] r) ⟨envOf 0 args, []⟩) : CallP Try.prog 70 args r :=
  callP_of tok mixed Try.func70 (by kernel_rfl) (by kernel_rfl) (by kernel_rfl : Try.f70.ntmps = 6) (by kernel_rfl : Try.f70.body.bind (strip 6 (fun _ => [])) = some A70) hn h
def A71 : ACode :=
  (.seq (.reg [] [⟨some 2, (.assign (.const (.bool false))), 4, none⟩])
    (.seq (.reg [] [⟨some 3, (.move (.tmp 0)), 3, none⟩,
      ⟨some 4, (.call ⟨(.value (.func 72)), #[(.tmp 3), (.const (.int .i64 0)), (.const (.int .i64 2))], #[3, 3, 3]⟩), 4, none⟩,
      ⟨some 2, (.assign (.tmp 4)), 4, none⟩])
    .ret))
theorem C71 {args : List AV} {r : AV} (hn : args.length ≤ 5) (h : vc Try.prog T [] A71 (Fin T [(.tmp 2)] r) ⟨envOf 0 args, []⟩) : CallP Try.prog 71 args r :=
  callP_of tok mixed Try.func71 (by kernel_rfl) (by kernel_rfl) (by kernel_rfl : Try.f71.ntmps = 5) (by kernel_rfl : Try.f71.body.bind (strip 5 (fun _ => [])) = some A71) hn h
def A72 : ACode :=
  (.seq (.reg [] [⟨some 6, (.assign (.const (.bool false))), 4, none⟩])
    (.seq (.reg [] [⟨some 7, (.move (.tmp 0)), 3, none⟩,
      ⟨some 8, (.move (.tmp 1)), 3, none⟩,
      ⟨some 9, (.binOp .geq 3 (.tmp 7) (.tmp 8) 3), 4, none⟩,
      ⟨some 10, (.move (.tmp 9)), 4, none⟩,
      ⟨some 11, (.move (.tmp 0)), 3, some (10, true)⟩,
      ⟨some 12, (.move (.tmp 2)), 3, some (10, true)⟩,
      ⟨some 13, (.binOp .leq 3 (.tmp 11) (.tmp 12) 3), 4, some (10, true)⟩,
      ⟨some 14, (.pick (.tmp 10) (.tmp 13) (.const (.bool false))), 4, none⟩,
      ⟨some 6, (.assign (.tmp 14)), 4, none⟩])
    .ret))
theorem C72 {args : List AV} {r : AV} (hn : args.length ≤ 15) (h : vc Try.prog T [] A72 (Fin T [(.tmp 6)] r) ⟨envOf 0 args, []⟩) : CallP Try.prog 72 args r :=
  callP_of tok mixed Try.func72 (by kernel_rfl) (by kernel_rfl) (by kernel_rfl : Try.f72.ntmps = 15) (by kernel_rfl : Try.f72.body.bind (strip 15 (fun _ => [])) = some A72) hn h
def A75 : ACode :=
  (.seq (.reg [] [⟨some 4, (.assign (.const (.slice none 0 0))), 23, none⟩,
      ⟨some 5, (.assign (.const (.bool false))), 4, none⟩])
    (.seq (.reg [] [⟨some 10, (.move (.tmp 0)), 22, none⟩,
      ⟨some 11, (.move (.tmp 1)), 3, none⟩,
      ⟨some 12, (.call ⟨(.value (.func 67)), #[(.tmp 10), (.tmp 11)], #[22, 3]⟩), 23, none⟩,
      ⟨some 6, (.assign (.tmp 12)), 23, none⟩])
    (.seq (.seq (.reg [] [⟨some 13, (.move (.tmp 6)), 23, none⟩,
      ⟨some 14, (.call ⟨(.value (.func 66)), #[(.tmp 13)], #[23]⟩), 3, none⟩,
      ⟨some 15, (.binOp .neq 3 (.tmp 14) (.const (.int .i64 2)) 3), 4, none⟩])
    (.cond (.tmp 15)
    (.seq (.reg [] [⟨some 4, (.assign (.const (.slice none 0 0))), 23, none⟩,
      ⟨some 5, (.assign (.const (.bool false))), 4, none⟩])
    .ret)
    .skip))
    (.seq (.reg [] [⟨some 7, (.assign (.const (.slice none 0 0))), 23, none⟩])
    (.seq (.seq (.reg [] [⟨some 16, (.move (.tmp 6)), 23, none⟩,
      ⟨some 17, (.call ⟨(.builtin .len), #[(.tmp 16)], #[23]⟩), 3, none⟩,
      ⟨some 18, (.move (.const (.int .i64 0))), 3, none⟩])
    (.block 0 (.loop (.seq (.reg [] [⟨some 19, (.binOp .lss 3 (.tmp 18) (.tmp 17) 3), 0, none⟩])
    (.seq (.cond (.tmp 19)
    .skip
    (.exit 0))
    (.seq (.block 1 (.seq (.reg [] [⟨some 20, (.move (.tmp 18)), 3, none⟩,
      ⟨some 21, (.indexAddr 23 (.tmp 16) (.tmp 18)), 0, none⟩,
      ⟨some 22, (.load 3 (.tmp 21)), 3, none⟩,
      ⟨some 8, (.assign (.tmp 20)), 3, none⟩,
      ⟨some 9, (.assign (.tmp 22)), 3, none⟩])
    (.seq (.reg [] [⟨some 23, (.move (.tmp 9)), 3, none⟩,
      ⟨some 24, (.move (.tmp 6)), 23, none⟩,
      ⟨some 25, (.indexAddr 23 (.tmp 24) (.const (.int .i64 0))), 0, none⟩,
      ⟨some 26, (.load 3 (.tmp 25)), 3, none⟩,
      ⟨some 27, (.binOp .neq 3 (.tmp 23) (.tmp 26) 3), 4, none⟩])
    (.cond (.tmp 27)
    (.reg [] [⟨some 28, (.move (.tmp 7)), 23, none⟩,
      ⟨some 29, (.move (.tmp 8)), 3, none⟩,
      ⟨some 30, (.buildSlice 23 1 #[(0, (.tmp 29))]), 23, none⟩,
      ⟨some 31, (.call ⟨(.builtin .append), #[(.tmp 28), (.tmp 30)], #[23, 23]⟩), 23, none⟩,
      ⟨some 7, (.assign (.tmp 31)), 23, none⟩])
    .skip))))
    (.reg [] [⟨some 32, (.binOp .add 3 (.tmp 18) (.const (.int .i64 1)) 3), 3, none⟩,
      ⟨some 18, (.move (.tmp 32)), 3, none⟩])))))))
    (.seq (.reg [] [⟨some 33, (.move (.tmp 7)), 23, none⟩,
      ⟨some 4, (.assign (.tmp 33)), 23, none⟩,
      ⟨some 5, (.assign (.const (.bool true))), 4, none⟩])
    .ret))))))
theorem C75 {args : List AV} {r : AV} (hn : args.length ≤ 34) (h : vc Try.prog T [] A75 (Fin T [(.tmp 4), (.tmp 5)] r) ⟨envOf 0 args, []⟩) : CallP Try.prog 75 args r :=
  callP_of tok mixed Try.func75 (by kernel_rfl) (by kernel_rfl) (by kernel_rfl : Try.f75.ntmps = 34) (by kernel_rfl : Try.f75.body.bind (strip 34 (fun _ => [])) = some A75) hn h
def A76 : ACode :=
  (.seq (.reg [] [⟨some 2, (.assign (.const (.bool false))), 4, none⟩])
    (.seq (.reg [] [⟨some 3, (.move (.tmp 0)), 3, none⟩,
      ⟨some 4, (.call ⟨(.value (.func 71)), #[(.tmp 3)], #[3]⟩), 4, none⟩,
      ⟨some 5, (.unOp .not 4 (.tmp 4)), 4, none⟩,
      ⟨some 2, (.assign (.tmp 5)), 4, none⟩])
    .ret))
theorem C76 {args : List AV} {r : AV} (hn : args.length ≤ 6) (h : vc Try.prog T [] A76 (Fin T [(.tmp 2)] r) ⟨envOf 0 args, []⟩) : CallP Try.prog 76 args r :=
  callP_of tok mixed Try.func76 (by kernel_rfl) (by kernel_rfl) (by kernel_rfl : Try.f76.ntmps = 6) (by kernel_rfl : Try.f76.body.bind (strip 6 (fun _ => [])) = some A76) hn h
def A77 : ACode :=
  (.seq (.reg [] [⟨some 6, (.assign (.const (.bool false))), 4, none⟩])
    (.seq (.reg [] [⟨some 11, (.move (.tmp 0)), 22, none⟩,
      ⟨some 12, (.move (.tmp 1)), 3, none⟩,
      ⟨some 13, (.call ⟨(.value (.func 67)), #[(.tmp 11), (.tmp 12)], #[22, 3]⟩), 23, none⟩,
      ⟨some 14, (.move (.tmp 0)), 22, none⟩,
      ⟨some 15, (.move (.tmp 2)), 3, none⟩,
      ⟨some 16, (.call ⟨(.value (.func 67)), #[(.tmp 14), (.tmp 15)], #[22, 3]⟩), 23, none⟩,
      ⟨some 7, (.assign (.tmp 13)), 23, none⟩,
      ⟨some 8, (.assign (.tmp 16)), 23, none⟩])
    (.seq (.seq (.reg [] [⟨some 17, (.move (.tmp 7)), 23, none⟩,
      ⟨some 18, (.call ⟨(.value (.func 66)), #[(.tmp 17)], #[23]⟩), 3, none⟩,
      ⟨some 19, (.binOp .neq 3 (.tmp 18) (.const (.int .i64 2)) 3), 4, none⟩,
      ⟨some 20, (.move (.tmp 19)), 4, none⟩,
      ⟨some 21, (.move (.tmp 8)), 23, some (20, false)⟩,
      ⟨some 22, (.call ⟨(.value (.func 66)), #[(.tmp 21)], #[23]⟩), 3, some (20, false)⟩,
      ⟨some 23, (.binOp .neq 3 (.tmp 22) (.const (.int .i64 2)) 3), 4, some (20, false)⟩,
      ⟨some 24, (.pick (.tmp 20) (.const (.bool true)) (.tmp 23)), 4, none⟩])
    (.cond (.tmp 24)
    (.seq (.reg [] [⟨some 6, (.assign (.const (.bool false))), 4, none⟩])
    .ret)
    .skip))
    (.seq (.reg [] [⟨some 25, (.makeMap 101 none), 101, none⟩,
      ⟨some 9, (.assign (.tmp 25)), 101, none⟩])
    (.seq (.seq (.reg [] [⟨some 26, (.move (.tmp 7)), 23, none⟩,
      ⟨some 27, (.call ⟨(.builtin .len), #[(.tmp 26)], #[23]⟩), 3, none⟩,
      ⟨some 28, (.move (.const (.int .i64 0))), 3, none⟩])
    (.block 0 (.loop (.seq (.reg [] [⟨some 29, (.binOp .lss 3 (.tmp 28) (.tmp 27) 3), 0, none⟩])
    (.seq (.cond (.tmp 29)
    .skip
    (.exit 0))
    (.seq (.block 1 (.seq (.reg [] [⟨some 30, (.move (.tmp 28)), 3, none⟩,
      ⟨some 10, (.assign (.tmp 30)), 3, none⟩])
    (.draw [] [⟨some 31, (.move (.tmp 9)), 101, none⟩,
      ⟨some 32, (.move (.tmp 7)), 23, none⟩,
      ⟨some 33, (.move (.tmp 10)), 3, none⟩,
      ⟨some 34, (.indexAddr 23 (.tmp 32) (.tmp 33)), 0, none⟩,
      ⟨some 35, (.load 3 (.tmp 34)), 3, none⟩,
      ⟨some 36, (.move (.tmp 8)), 23, none⟩,
      ⟨some 37, (.move (.tmp 10)), 3, none⟩,
      ⟨some 38, (.indexAddr 23 (.tmp 36) (.tmp 37)), 0, none⟩,
      ⟨some 39, (.load 3 (.tmp 38)), 3, none⟩,
      ⟨some 40, (.build 84 #[(0, (.tmp 35)), (1, (.tmp 39))]), 84, none⟩,
      ⟨none, (.mapUpdate 101 (.tmp 31) (.tmp 40) (.const (.bool true))), 0, none⟩] [(0, 1), (0, 2), (1, 2), (0, 3), (0, 4), (0, 5), (1, 5), (2, 5), (3, 5), (4, 5), (0, 6), (1, 6), (2, 6), (3, 6), (4, 6), (5, 6), (0, 7), (1, 7), (2, 7), (3, 7), (4, 7), (0, 8), (1, 8), (2, 8), (3, 8), (4, 8), (0, 9)])))
    (.reg [] [⟨some 41, (.binOp .add 3 (.tmp 28) (.const (.int .i64 1)) 3), 3, none⟩,
      ⟨some 28, (.move (.tmp 41)), 3, none⟩])))))))
    (.seq (.reg [] [⟨some 42, (.move (.tmp 9)), 101, none⟩,
      ⟨some 43, (.call ⟨(.builtin .len), #[(.tmp 42)], #[101]⟩), 3, none⟩,
      ⟨some 44, (.binOp .eql 3 (.tmp 43) (.const (.int .i64 4)) 3), 4, none⟩,
      ⟨some 6, (.assign (.tmp 44)), 4, none⟩])
    .ret))))))
theorem C77 {args : List AV} {r : AV} (hn : args.length ≤ 45) (h : vc Try.prog T [] A77 (Fin T [(.tmp 6)] r) ⟨envOf 0 args, []⟩) : CallP Try.prog 77 args r :=
  callP_of tok mixed Try.func77 (by kernel_rfl) (by kernel_rfl) (by kernel_rfl : Try.f77.ntmps = 45) (by kernel_rfl : Try.f77.body.bind (strip 45 (fun _ => [])) = some A77) hn h
def A79 : ACode :=
  (.seq (.reg [] [⟨some 2, (.assign (.const (.slice none 0 0))), 50, none⟩])
    (.seq (.reg [] [⟨some 3, (.assign (.const (.slice none 0 0))), 50, none⟩])
    (.seq (.seq (.reg [] [⟨some 6, (.move (.tmp 0)), 22, none⟩,
      ⟨some 7, (.indexAddr 22 (.tmp 6) (.const (.int .i64 0))), 0, none⟩,
      ⟨some 8, (.load 23 (.tmp 7)), 23, none⟩,
      ⟨some 9, (.call ⟨(.builtin .len), #[(.tmp 8)], #[23]⟩), 3, none⟩,
      ⟨some 10, (.move (.const (.int .i64 0))), 3, none⟩])
    (.block 0 (.loop (.seq (.reg [] [⟨some 11, (.binOp .lss 3 (.tmp 10) (.tmp 9) 3), 0, none⟩])
    (.seq (.cond (.tmp 11)
    .skip
    (.exit 0))
    (.seq (.block 1 (.seq (.reg [] [⟨some 12, (.move (.tmp 10)), 3, none⟩,
      ⟨some 4, (.assign (.tmp 12)), 3, none⟩])
    (.seq (.reg [] [⟨some 13, (.move (.tmp 4)), 3, none⟩,
      ⟨some 14, (.binOp .add 3 (.tmp 13) (.const (.int .i64 1)) 3), 3, none⟩,
      ⟨some 5, (.assign (.tmp 14)), 3, none⟩])
    (.block 2 (.loop (.seq (.seq (.reg [] [⟨some 15, (.move (.tmp 5)), 3, none⟩,
      ⟨some 16, (.move (.tmp 0)), 22, none⟩,
      ⟨some 17, (.indexAddr 22 (.tmp 16) (.const (.int .i64 0))), 0, none⟩,
      ⟨some 18, (.load 23 (.tmp 17)), 23, none⟩,
      ⟨some 19, (.call ⟨(.builtin .len), #[(.tmp 18)], #[23]⟩), 3, none⟩,
      ⟨some 20, (.binOp .lss 3 (.tmp 15) (.tmp 19) 3), 4, none⟩])
    (.cond (.tmp 20)
    .skip
    (.exit 2)))
    (.seq (.block 3 (.seq (.reg [] [⟨some 23, (.move (.tmp 0)), 22, none⟩,
      ⟨some 24, (.move (.tmp 4)), 3, none⟩,
      ⟨some 25, (.move (.tmp 5)), 3, none⟩,
      ⟨some 26, (.call ⟨(.value (.func 77)), #[(.tmp 23), (.tmp 24), (.tmp 25)], #[22, 3, 3]⟩), 4, none⟩])
    (.cond (.tmp 26)
    (.reg [] [⟨some 27, (.move (.tmp 3)), 50, none⟩,
      ⟨some 28, (.move (.tmp 4)), 3, none⟩,
      ⟨some 29, (.move (.tmp 5)), 3, none⟩,
      ⟨some 30, (.build 84 #[(0, (.tmp 28)), (1, (.tmp 29))]), 84, none⟩,
      ⟨some 31, (.buildSlice 50 1 #[(0, (.tmp 30))]), 50, none⟩,
      ⟨some 32, (.call ⟨(.builtin .append), #[(.tmp 27), (.tmp 31)], #[50, 50]⟩), 50, none⟩,
      ⟨some 3, (.assign (.tmp 32)), 50, none⟩])
    .skip)))
    (.reg [] [⟨some 21, (.move (.tmp 5)), 3, none⟩,
      ⟨some 22, (.binOp .add 3 (.tmp 21) (.const (.int .i64 1)) 3), 3, none⟩,
      ⟨some 5, (.assign (.tmp 22)), 3, none⟩]))))))))
    (.reg [] [⟨some 33, (.binOp .add 3 (.tmp 10) (.const (.int .i64 1)) 3), 3, none⟩,
      ⟨some 10, (.move (.tmp 33)), 3, none⟩])))))))
    (.seq (.reg [] [⟨some 34, (.move (.tmp 3)), 50, none⟩,
      ⟨some 2, (.assign (.tmp 34)), 50, none⟩])
    .ret))))
theorem C79 {args : List AV} {r : AV} (hn : args.length ≤ 35) (h : vc Try.prog T [] A79 (Fin T [(.tmp 2)] r) ⟨envOf 0 args, []⟩) : CallP Try.prog 79 args r :=
  callP_of tok mixed Try.func79 (by kernel_rfl) (by kernel_rfl) (by kernel_rfl : Try.f79.ntmps = 35) (by kernel_rfl : Try.f79.body.bind (strip 35 (fun _ => [])) = some A79) hn h
def A84 : ACode :=
  (.seq (.reg [] [⟨some 2, (.assign (.const (.slice none 0 0))), 22, none⟩])
    (.seq (.reg [] [⟨some 6, (.move (.tmp 0)), 22, none⟩,
      ⟨some 7, (.call ⟨(.builtin .len), #[(.tmp 6)], #[22]⟩), 3, none⟩,
      ⟨some 8, (.makeSlice 22 (.tmp 7) (.tmp 7)), 22, none⟩,
      ⟨some 3, (.assign (.tmp 8)), 22, none⟩])
    (.seq (.seq (.reg [] [⟨some 9, (.move (.tmp 0)), 22, none⟩,
      ⟨some 10, (.call ⟨(.builtin .len), #[(.tmp 9)], #[22]⟩), 3, none⟩,
      ⟨some 11, (.move (.const (.int .i64 0))), 3, none⟩])
    (.block 0 (.loop (.seq (.reg [] [⟨some 12, (.binOp .lss 3 (.tmp 11) (.tmp 10) 3), 0, none⟩])
    (.seq (.cond (.tmp 12)
    .skip
    (.exit 0))
    (.seq (.block 1 (.seq (.reg [] [⟨some 13, (.move (.tmp 11)), 3, none⟩,
      ⟨some 14, (.indexAddr 22 (.tmp 9) (.tmp 11)), 0, none⟩,
      ⟨some 15, (.load 23 (.tmp 14)), 23, none⟩,
      ⟨some 4, (.assign (.tmp 13)), 3, none⟩,
      ⟨some 5, (.assign (.tmp 15)), 23, none⟩])
    (.seq (.reg [] [⟨some 16, (.move (.tmp 3)), 22, none⟩,
      ⟨some 17, (.move (.tmp 4)), 3, none⟩,
      ⟨some 18, (.move (.tmp 5)), 23, none⟩,
      ⟨some 19, (.call ⟨(.builtin .len), #[(.tmp 18)], #[23]⟩), 3, none⟩,
      ⟨some 20, (.makeSlice 23 (.tmp 19) (.tmp 19)), 23, none⟩,
      ⟨some 21, (.indexAddr 22 (.tmp 16) (.tmp 17)), 0, none⟩,
      ⟨none, (.store 23 (.tmp 21) (.tmp 20)), 0, none⟩])
    (.reg [] [⟨some 22, (.move (.tmp 3)), 22, none⟩,
      ⟨some 23, (.move (.tmp 4)), 3, none⟩,
      ⟨some 24, (.indexAddr 22 (.tmp 22) (.tmp 23)), 0, none⟩,
      ⟨some 25, (.load 23 (.tmp 24)), 23, none⟩,
      ⟨some 26, (.move (.tmp 5)), 23, none⟩,
      ⟨some 27, (.call ⟨(.builtin .copy), #[(.tmp 25), (.tmp 26)], #[23, 23]⟩), 3, none⟩]))))
    (.reg [] [⟨some 28, (.binOp .add 3 (.tmp 11) (.const (.int .i64 1)) 3), 3, none⟩,
      ⟨some 11, (.move (.tmp 28)), 3, none⟩])))))))
    (.seq (.reg [] [⟨some 29, (.move (.tmp 3)), 22, none⟩,
      ⟨some 2, (.assign (.tmp 29)), 22, none⟩])
    .ret))))
def A87 : ACode :=
  (.seq (.reg [] [⟨some 4, (.assign (.const (.bool false))), 4, none⟩])
    (.seq (.reg [] [⟨some 5, (.load 22 (.tmp 1)), 22, none⟩,
      ⟨some 6, (.load 3 (.tmp 2)), 3, none⟩,
      ⟨some 7, (.move (.tmp 0)), 3, none⟩,
      ⟨some 8, (.call ⟨(.value (.func 77)), #[(.tmp 5), (.tmp 6), (.tmp 7)], #[22, 3, 3]⟩), 4, none⟩,
      ⟨some 4, (.assign (.tmp 8)), 4, none⟩])
    .ret))
theorem C87 {args : List AV} {r : AV} (hn : args.length ≤ 9) (h : vc Try.prog T [] A87 (Fin T [(.tmp 4)] r) ⟨envOf 0 args, []⟩) : CallP Try.prog 87 args r :=
  callP_of tok mixed Try.func87 (by kernel_rfl) (by kernel_rfl) (by kernel_rfl : Try.f87.ntmps = 9) (by kernel_rfl : Try.f87.body.bind (strip 9 (fun _ => [])) = some A87) hn h
def A91 : ACode :=
  (.seq (.reg [] [⟨some 4, (.assign (.const (.int .i64 0))), 3, none⟩])
    (.seq (.seq (.reg [] [⟨some 5, (.move (.tmp 0)), 23, none⟩,
      ⟨some 6, (.call ⟨(.builtin .len), #[(.tmp 5)], #[23]⟩), 3, none⟩,
      ⟨some 7, (.move (.tmp 1)), 23, none⟩,
      ⟨some 8, (.call ⟨(.builtin .len), #[(.tmp 7)], #[23]⟩), 3, none⟩,
      ⟨some 9, (.binOp .neq 3 (.tmp 6) (.tmp 8) 3), 4, none⟩])
    (.cond (.tmp 9)
    (.seq (.reg [] [⟨some 10, (.move (.tmp 1)), 23, none⟩,
      ⟨some 11, (.call ⟨(.builtin .len), #[(.tmp 10)], #[23]⟩), 3, none⟩,
      ⟨some 12, (.move (.tmp 0)), 23, none⟩,
      ⟨some 13, (.call ⟨(.builtin .len), #[(.tmp 12)], #[23]⟩), 3, none⟩,
      ⟨some 14, (.binOp .sub 3 (.tmp 11) (.tmp 13) 3), 3, none⟩,
      ⟨some 4, (.assign (.tmp 14)), 3, none⟩])
    .ret)
    .skip))
    (.seq (.reg [] [⟨some 15, (.move (.tmp 0)), 23, none⟩,
      ⟨some 16, (.move (.tmp 1)), 23, none⟩,
      ⟨some 17, (.call ⟨(.value (.func 88)), #[(.tmp 15), (.tmp 16)], #[23, 23]⟩), 3, none⟩,
      ⟨some 4, (.assign (.tmp 17)), 3, none⟩])
    .ret)))
theorem C91 {args : List AV} {r : AV} (hn : args.length ≤ 18) (h : vc Try.prog T [] A91 (Fin T [(.tmp 4)] r) ⟨envOf 0 args, []⟩) : CallP Try.prog 91 args r :=
  callP_of tok mixed Try.func91 (by kernel_rfl) (by kernel_rfl) (by kernel_rfl : Try.f91.ntmps = 18) (by kernel_rfl : Try.f91.body.bind (strip 18 (fun _ => [])) = some A91) hn h
def A93 : ACode :=
  (.seq (.reg [] [⟨some 4, (.box 25 (.tmp 1)), 0, none⟩,
      ⟨some 6, (.assign (.const (.slice none 0 0))), 23, none⟩,
      ⟨some 7, (.assign (.const (.bool false))), 4, none⟩])
    (.seq (.reg [] [⟨some 11, (.buildSlice 23 1 #[(0, (.const (.int .i64 (-1))))]), 23, none⟩,
      ⟨some 12, (.fieldAddr 25 (.tmp 4) 0), 0, none⟩,
      ⟨some 13, (.load 23 (.tmp 12)), 23, none⟩,
      ⟨some 14, (.call ⟨(.builtin .len), #[(.tmp 13)], #[23]⟩), 3, none⟩,
      ⟨some 15, (.call ⟨(.value (.func 102)), #[(.tmp 11), (.tmp 14)], #[23, 3]⟩), 23, none⟩,
      ⟨some 8, (.assign (.tmp 15)), 23, none⟩])
    (.seq (.seq (.reg [] [⟨some 16, (.fieldAddr 25 (.tmp 4) 1), 0, none⟩,
      ⟨some 17, (.load 23 (.tmp 16)), 23, none⟩,
      ⟨some 18, (.call ⟨(.builtin .len), #[(.tmp 17)], #[23]⟩), 3, none⟩,
      ⟨some 19, (.move (.const (.int .i64 0))), 3, none⟩])
    (.block 0 (.loop (.seq (.reg [] [⟨some 20, (.binOp .lss 3 (.tmp 19) (.tmp 18) 3), 0, none⟩])
    (.seq (.cond (.tmp 20)
    .skip
    (.exit 0))
    (.seq (.block 1 (.seq (.reg [] [⟨some 21, (.move (.tmp 19)), 3, none⟩,
      ⟨some 22, (.indexAddr 23 (.tmp 17) (.tmp 19)), 0, none⟩,
      ⟨some 23, (.load 3 (.tmp 22)), 3, none⟩,
      ⟨some 9, (.assign (.tmp 21)), 3, none⟩,
      ⟨some 10, (.assign (.tmp 23)), 3, none⟩])
    (.seq (.seq (.draw [] [⟨some 24, (.move (.tmp 8)), 23, none⟩,
      ⟨some 25, (.move (.tmp 10)), 3, none⟩,
      ⟨some 26, (.indexAddr 23 (.tmp 24) (.tmp 25)), 0, none⟩,
      ⟨some 27, (.load 3 (.tmp 26)), 3, none⟩,
      ⟨some 28, (.binOp .geq 3 (.tmp 27) (.const (.int .i64 0)) 3), 4, none⟩,
      ⟨some 29, (.move (.tmp 28)), 4, none⟩,
      ⟨some 30, (.move (.tmp 8)), 23, some (29, true)⟩,
      ⟨some 31, (.move (.tmp 10)), 3, some (29, true)⟩,
      ⟨some 32, (.indexAddr 23 (.tmp 30) (.tmp 31)), 0, some (29, true)⟩,
      ⟨some 33, (.load 3 (.tmp 32)), 3, some (29, true)⟩,
      ⟨some 34, (.move (.tmp 0)), 22, some (29, true)⟩,
      ⟨some 35, (.move (.tmp 9)), 3, some (29, true)⟩,
      ⟨some 36, (.indexAddr 22 (.tmp 34) (.tmp 35)), 0, some (29, true)⟩,
      ⟨some 37, (.load 23 (.tmp 36)), 23, some (29, true)⟩,
      ⟨some 38, (.move (.tmp 2)), 3, some (29, true)⟩,
      ⟨some 39, (.indexAddr 23 (.tmp 37) (.tmp 38)), 0, some (29, true)⟩,
      ⟨some 40, (.load 3 (.tmp 39)), 3, some (29, true)⟩,
      ⟨some 41, (.binOp .neq 3 (.tmp 33) (.tmp 40) 3), 4, some (29, true)⟩,
      ⟨some 42, (.pick (.tmp 29) (.tmp 41) (.const (.bool false))), 4, none⟩] [(0, 1), (6, 7), (6, 10), (7, 10), (8, 10), (9, 10), (6, 11), (7, 11), (8, 11), (9, 11), (10, 11), (6, 12), (7, 12), (8, 12), (9, 12), (6, 13), (7, 13), (8, 13), (9, 13), (6, 14), (7, 14), (8, 14), (9, 14), (10, 14), (11, 14), (12, 14), (13, 14), (6, 15), (7, 15), (8, 15), (9, 15), (6, 16), (7, 16), (8, 16), (9, 16)])
    (.cond (.tmp 42)
    (.seq (.reg [] [⟨some 6, (.assign (.const (.slice none 0 0))), 23, none⟩,
      ⟨some 7, (.assign (.const (.bool false))), 4, none⟩])
    .ret)
    .skip))
    (.reg [] [⟨some 43, (.move (.tmp 8)), 23, none⟩,
      ⟨some 44, (.move (.tmp 10)), 3, none⟩,
      ⟨some 45, (.move (.tmp 0)), 22, none⟩,
      ⟨some 46, (.move (.tmp 9)), 3, none⟩,
      ⟨some 47, (.indexAddr 22 (.tmp 45) (.tmp 46)), 0, none⟩,
      ⟨some 48, (.load 23 (.tmp 47)), 23, none⟩,
      ⟨some 49, (.move (.tmp 2)), 3, none⟩,
      ⟨some 50, (.indexAddr 23 (.tmp 48) (.tmp 49)), 0, none⟩,
      ⟨some 51, (.load 3 (.tmp 50)), 3, none⟩,
      ⟨some 52, (.indexAddr 23 (.tmp 43) (.tmp 44)), 0, none⟩,
      ⟨none, (.store 3 (.tmp 52) (.tmp 51)), 0, none⟩]))))
    (.reg [] [⟨some 53, (.binOp .add 3 (.tmp 19) (.const (.int .i64 1)) 3), 3, none⟩,
      ⟨some 19, (.move (.tmp 53)), 3, none⟩])))))))
    (.seq (.reg [] [⟨some 54, (.move (.tmp 8)), 23, none⟩,
      ⟨some 6, (.assign (.tmp 54)), 23, none⟩,
      ⟨some 7, (.assign (.const (.bool true))), 4, none⟩])
    .ret))))
theorem C93 {args : List AV} {r : AV} (hn : args.length ≤ 55) (h : vc Try.prog T [] A93 (Fin T [(.tmp 6), (.tmp 7)] r) ⟨envOf 0 args, []⟩) : CallP Try.prog 93 args r :=
  callP_of tok mixed Try.func93 (by kernel_rfl) (by kernel_rfl) (by kernel_rfl : Try.f93.ntmps = 55) (by kernel_rfl : Try.f93.body.bind (strip 55 (fun _ => [])) = some A93) hn h

end Go.Proofs.Ytnpkaemlidifgaa
end

section
/- Functions of the cut as the value layer reads them. (written by gen.py) -/
set_option maxRecDepth 20000
namespace Go.Proofs.Ytnpkaemlidifgaa
open Go.Abs Go

end Go.Proofs.Ytnpkaemlidifgaa
end

section
/- Plain: the fewest changes on a tree, from the leaves to the first node. -/
namespace Go.Proofs.Ytnpkaemlidifgaa
open Go.Abs Go

def dd (q r : Int) : Int := if q = r then 0 else 1
theorem dd_le (q r : Int) : dd q r ≤ 1 := by unfold dd; split <;> omega
theorem dd_nn (q r : Int) : 0 ≤ dd q r := by unfold dd; split <;> omega
/-- A reading. -/
def ok3 (r : Int) : Prop := r = 0 ∨ r = 1 ∨ r = 2
/-- The smallest cost of a node, seen from its parent with a reading, at most M. -/
def leastF (M : Int) (f : Int → Int) (r : Int) : Int := min (min (min M (f 0 + dd 0 r)) (f 1 + dd 1 r)) (f 2 + dd 2 r)
theorem leastF_le {M : Int} {f : Int → Int} {r q : Int} (hq : ok3 q) : leastF M f r ≤ f q + dd q r := by
  unfold leastF
  rcases hq with rfl | rfl | rfl <;> omega
theorem leastF_top {M : Int} {f : Int → Int} {r : Int} : leastF M f r ≤ M := by unfold leastF; omega
theorem leastF_ge {M x : Int} {f : Int → Int} {r : Int} (h0 : x ≤ M) (h : ∀ q, ok3 q → x ≤ f q + dd q r) : x ≤ leastF M f r := by
  have a := h 0 (.inl rfl)
  have b := h 1 (.inr (.inl rfl))
  have c := h 2 (.inr (.inr rfl))
  unfold leastF
  omega
theorem leastF_nn {M : Int} {f : Int → Int} {r : Int} (h0 : 0 ≤ M) (h : ∀ q, 0 ≤ f q) : 0 ≤ leastF M f r :=
  leastF_ge h0 fun q _ => by have := h q; have := dd_nn q r; omega

abbrev Cost := Nat → Int → Int
/-- What a node must not read costs M. -/
def forb (M : Int) (al : Nat → Int → Bool) (i : Nat) (b : Cost) : Cost := fun j r => if j = i ∧ al i r = false then M else b j r
/-- A node is added to its parent. -/
def dpStep (M : Int) (al : Nat → Int → Bool) (p : Nat → Nat) (i : Nat) (b : Cost) : Cost :=
  fun j r => if i ≠ 0 ∧ j = p i then forb M al i b j r + leastF M (forb M al i b i) r else forb M al i b j r
/-- The nodes below k, the last one first. -/
def dpRun (M : Int) (al : Nat → Int → Bool) (p : Nat → Nat) : Nat → Cost → Cost
  | 0, b => b
  | k + 1, b => dpRun M al p k (dpStep M al p k b)
theorem forb_other {M : Int} {al : Nat → Int → Bool} {i j : Nat} {b : Cost} {r : Int} (h : j ≠ i) : forb M al i b j r = b j r := by simp [forb, h]
theorem forb_al {M : Int} {al : Nat → Int → Bool} {i j : Nat} {b : Cost} {r : Int} (h : al i r = true) : forb M al i b j r = b j r := by simp [forb, h]

def sumB (b : Cost) (rd : Nat → Int) : Nat → Int
  | 0 => 0
  | i + 1 => sumB b rd i + b i (rd i)
/-- The changes of the nodes 1 to k. -/
def chg (p : Nat → Nat) (rd : Nat → Int) : Nat → Int
  | 0 => 0
  | k + 1 => chg p rd k + dd (rd (k + 1)) (rd (p (k + 1)))
theorem chg_nn (p : Nat → Nat) (rd : Nat → Int) : ∀ k, 0 ≤ chg p rd k
  | 0 => Int.le_refl 0
  | k + 1 => by have := chg_nn p rd k; have := dd_nn (rd (k + 1)) (rd (p (k + 1))); simp only [chg]; omega
theorem chg_le (p : Nat → Nat) (rd : Nat → Int) : ∀ k : Nat, chg p rd k ≤ k
  | 0 => by simp [chg]
  | k + 1 => by have := chg_le p rd k; have := dd_le (rd (k + 1)) (rd (p (k + 1))); simp only [chg]; omega

section
variable {M : Int} {al : Nat → Int → Bool} {p : Nat → Nat} (hp : ∀ i, 1 ≤ i → p i < i)

include hp in
theorem dpRun_keep : ∀ (k : Nat) (b : Cost) (j : Nat), k ≤ j → dpRun M al p k b j = b j
  | 0, b, j, _ => rfl
  | k + 1, b, j, h => by
    rw [dpRun, dpRun_keep k _ j (by omega)]
    funext r
    unfold dpStep
    have h1 : ¬ (k ≠ 0 ∧ j = p k) := by
      rintro ⟨h0, e⟩
      have := hp k (by omega)
      omega
    rw [if_neg h1, forb_other (by omega)]
include hp in
theorem dpStep_self (k : Nat) (b : Cost) : dpStep M al p k b k = forb M al k b k := by
  funext r
  unfold dpStep
  have h1 : ¬ (k ≠ 0 ∧ k = p k) := by
    rintro ⟨h0, e⟩
    have := hp k (by omega)
    omega
  rw [if_neg h1]
theorem sum_step (rd : Nat → Int) (k : Nat) (b : Cost) : ∀ m, m ≤ k → sumB (dpStep M al p k b) rd m = sumB b rd m + if k ≠ 0 ∧ p k < m then leastF M (forb M al k b k) (rd (p k)) else 0
  | 0, _ => by simp [sumB]
  | m + 1, h => by
    rw [sumB, sumB, sum_step rd k b m (by omega)]
    have e : forb M al k b m (rd m) = b m (rd m) := forb_other (by omega)
    unfold dpStep
    by_cases h0 : k ≠ 0 ∧ m = p k
    · rw [if_pos h0, e]
      have h1 : ¬ (k ≠ 0 ∧ p k < m) := by omega
      have h2 : k ≠ 0 ∧ p k < m + 1 := by omega
      rw [if_neg h1, if_pos h2, ← h0.2]
      omega
    · rw [if_neg h0, e]
      by_cases h1 : k ≠ 0 ∧ p k < m
      · have h2 : k ≠ 0 ∧ p k < m + 1 := by omega
        rw [if_pos h1, if_pos h2]
        omega
      · have h2 : ¬ (k ≠ 0 ∧ p k < m + 1) := by omega
        rw [if_neg h1, if_neg h2]
        omega

include hp in
/-- No readings that are allowed cost less. -/
theorem dp_lower {rd : Nat → Int} (hrd : ∀ i, ok3 (rd i)) : ∀ (k : Nat) (b : Cost), (∀ i, i < k + 1 → al i (rd i) = true) → dpRun M al p (k + 1) b 0 (rd 0) ≤ sumB b rd (k + 1) + chg p rd k
  | 0, b, ha => by
    show dpStep M al p 0 b 0 (rd 0) ≤ _
    rw [dpStep_self hp, forb_al (ha 0 (by omega))]
    simp [sumB, chg]
  | k + 1, b, ha => by
    rw [dpRun]
    have ih := dp_lower hrd k (dpStep M al p (k + 1) b) fun i hi => ha i (by omega)
    rw [sum_step rd (k + 1) b (k + 1) (Nat.le_refl _)] at ih
    have hpk := hp (k + 1) (by omega)
    rw [if_pos ⟨by omega, hpk⟩] at ih
    have h1 := leastF_le (M := M) (f := forb M al (k + 1) b (k + 1)) (r := rd (p (k + 1))) (hrd (k + 1))
    rw [forb_al (ha (k + 1) (by omega))] at h1
    simp only [sumB, chg] at ih ⊢
    omega
include hp in
/-- Readings of which each is the best one for that of the parent cost just so much. -/
theorem dp_equal {rd : Nat → Int} : ∀ (k : Nat) (b : Cost), (∀ i, i < k + 1 → al i (rd i) = true) → (∀ i, 1 ≤ i → i < k + 1 → leastF M (dpRun M al p (k + 1) b i) (rd (p i)) = dpRun M al p (k + 1) b i (rd i) + dd (rd i) (rd (p i))) →
    dpRun M al p (k + 1) b 0 (rd 0) = sumB b rd (k + 1) + chg p rd k
  | 0, b, ha, _ => by
    show dpStep M al p 0 b 0 (rd 0) = _
    rw [dpStep_self hp, forb_al (ha 0 (by omega))]
    simp [sumB, chg]
  | k + 1, b, ha, hb => by
    rw [dpRun]
    have hk := hb (k + 1) (by omega) (by omega)
    rw [dpRun, dpRun_keep hp (k + 1) _ (k + 1) (Nat.le_refl _), dpStep_self hp, forb_al (ha (k + 1) (by omega))] at hk
    have ih := dp_equal k (dpStep M al p (k + 1) b) (fun i hi => ha i (by omega)) fun i h1 h2 => by
      have := hb i h1 (by omega)
      rwa [dpRun] at this
    rw [sum_step rd (k + 1) b (k + 1) (Nat.le_refl _)] at ih
    have hpk := hp (k + 1) (by omega)
    rw [if_pos ⟨by omega, hpk⟩] at ih
    simp only [sumB, chg] at ih ⊢
    omega

def sumU (u : Nat → Int) : Nat → Int
  | 0 => 0
  | i + 1 => sumU u i + u i
theorem sumU_nn {u : Nat → Int} (h : ∀ j, 0 ≤ u j) : ∀ k, 0 ≤ sumU u k
  | 0 => Int.le_refl 0
  | k + 1 => by have := sumU_nn h k; have := h k; simp only [sumU]; omega
theorem sumU_raise {u : Nat → Int} {q : Nat} {x : Int} (hx : 0 ≤ x) : ∀ k, sumU (fun j => if j = q then u j + x else u j) k ≤ sumU u k + if q < k then x else 0
  | 0 => by simp [sumU]
  | k + 1 => by
    have ih := sumU_raise (u := u) (q := q) hx k
    simp only [sumU]
    by_cases h : k = q
    · subst h
      rw [if_neg (by omega)] at ih
      rw [if_pos rfl, if_pos (by omega)]
      omega
    · rw [if_neg h]
      by_cases h2 : q < k
      · rw [if_pos h2] at ih
        rw [if_pos (by omega)]
        omega
      · rw [if_neg h2] at ih
        rw [if_neg (by omega)]
        omega
include hp in
/-- What is allowed stays cheap. -/
theorem dp_bound (hal : ∀ j, ∃ q, ok3 q ∧ al j q = true) : ∀ (k : Nat) (b : Cost) (u : Nat → Int), (∀ j, 0 ≤ u j) → (∀ j r, j < k → ok3 r → al j r = true → b j r ≤ u j) → ∀ j r, j < k → ok3 r → al j r = true → dpRun M al p k b j r ≤ sumU u k + k
  | 0, b, u, _, _, j, r, hj, _, _ => by omega
  | k + 1, b, u, hu, hb, j, r, hj, hr, ha => by
    rw [dpRun]
    have hsk := sumU_nn hu k
    have huk := hu k
    by_cases hjk : j = k
    · subst hjk
      rw [dpRun_keep hp j _ j (Nat.le_refl _), dpStep_self hp, forb_al ha]
      have := hb j r (by omega) hr ha
      simp only [sumU]
      omega
    · by_cases h0 : k = 0
      · omega
      · have hpk := hp k (by omega)
        obtain ⟨q, hq, hqa⟩ := hal k
        have hbq := hb k q (by omega) hq hqa
        have ih := dp_bound hal k (dpStep M al p k b) (fun j => if j = p k then u j + (u k + 1) else u j) (fun j => by
          have := hu j
          split <;> omega) (fun j r hj hr ha => by
          have hbj := hb j r (by omega) hr ha
          unfold dpStep
          by_cases e : j = p k
          · rw [if_pos ⟨h0, e⟩, if_pos e, forb_other (by omega)]
            have h1 := leastF_le (M := M) (f := forb M al k b k) (r := r) hq
            rw [forb_al hqa] at h1
            have := dd_le q r
            omega
          · rw [if_neg (fun h => e h.2), if_neg e, forb_other (by omega)]
            exact hbj) j r (by omega) hr ha
        have hs := sumU_raise (u := u) (q := p k) (x := u k + 1) (by omega) k
        rw [if_pos hpk] at hs
        simp only [sumU]
        omega
include hp in
/-- What is forbidden costs M. -/
theorem dp_forbidden {i : Nat} {q : Int} (hq : al i q = false) : ∀ (k : Nat) (b : Cost), i < k → dpRun M al p k b i q = M
  | k + 1, b, h => by
    rw [dpRun]
    by_cases e : i = k
    · subst e
      rw [dpRun_keep hp _ _ _ (Nat.le_refl _), dpStep_self hp]
      simp [forb, hq]
    · exact dp_forbidden hq k _ (by omega)
theorem forb_nn (hM : 0 ≤ M) {b : Cost} (h : ∀ j r, 0 ≤ b j r) (i j : Nat) (r : Int) : 0 ≤ forb M al i b j r := by
  unfold forb
  split
  · exact hM
  · exact h j r
theorem dp_nn (hM : 0 ≤ M) : ∀ (k : Nat) (b : Cost), (∀ j r, 0 ≤ b j r) → ∀ j r, 0 ≤ dpRun M al p k b j r
  | 0, b, h, j, r => h j r
  | k + 1, b, h, j, r => by
    rw [dpRun]
    refine dp_nn hM k _ (fun j r => ?_) j r
    unfold dpStep
    have h1 := forb_nn (al := al) hM h k
    split
    · have := h1 j r
      have := leastF_nn (M := M) (f := forb M al k b k) (r := r) hM (h1 k)
      omega
    · exact h1 j r
end

/-! ### the readings, from the first node on -/
/-- One reading more is looked at: the best one that is allowed, the first of equals. -/
def rnd (g : Int → Int) (al : Int → Bool) (s : Int × Int) (r : Int) : Int × Int := if al r = false then s else if s.1 < 0 ∨ g r < s.1 then (g r, r) else s
def pick (g : Int → Int) (al : Int → Bool) : Int := (rnd g al (rnd g al (rnd g al (-1, 0) 0) 1) 2).2
theorem pick_best {g : Int → Int} {al : Int → Bool} (hg : ∀ r, 0 ≤ g r) (h : ∃ q, ok3 q ∧ al q = true) : ok3 (pick g al) ∧ al (pick g al) = true ∧ ∀ q, ok3 q → al q = true → g (pick g al) ≤ g q := by
  obtain ⟨q, hq, hqa⟩ := h
  have g0 := hg 0
  have g1 := hg 1
  have g2 := hg 2
  have key : ∀ x : Int, ok3 x → al x = true → (∀ q, ok3 q → al q = true → g x ≤ g q) → pick g al = x → ok3 (pick g al) ∧ al (pick g al) = true ∧ ∀ q, ok3 q → al q = true → g (pick g al) ≤ g q := by
    intro x h1 h2 h3 e
    rw [e]; exact ⟨h1, h2, h3⟩
  have all : ∀ {x : Int}, (al 0 = true → g x ≤ g 0) → (al 1 = true → g x ≤ g 1) → (al 2 = true → g x ≤ g 2) → ∀ q, ok3 q → al q = true → g x ≤ g q := by
    intro x h0 h1 h2 q hq ha
    rcases hq with rfl | rfl | rfl
    · exact h0 ha
    · exact h1 ha
    · exact h2 ha
  have n0 : ¬ g 0 < 0 := by omega
  have n1 : ¬ g 1 < 0 := by omega
  have n2 : ¬ g 2 < 0 := by omega
  cases a0 : al 0 <;> cases a1 : al 1 <;> cases a2 : al 2
  · rcases hq with rfl | rfl | rfl <;> simp_all
  · exact key 2 (.inr (.inr rfl)) a2 (all (by simp [a0]) (by simp [a1]) (by simp)) (by simp [pick, rnd, a0, a1, a2])
  · exact key 1 (.inr (.inl rfl)) a1 (all (by simp [a0]) (by simp) (by simp [a2])) (by simp [pick, rnd, a0, a1, a2])
  · by_cases c : g 2 < g 1
    · exact key 2 (.inr (.inr rfl)) a2 (all (by simp [a0]) (by intro _; omega) (by simp)) (by simp [pick, rnd, a0, a1, a2, c, n0, n1, n2])
    · exact key 1 (.inr (.inl rfl)) a1 (all (by simp [a0]) (by simp) (by intro _; omega)) (by simp [pick, rnd, a0, a1, a2, c, n0, n1, n2])
  · exact key 0 (.inl rfl) a0 (all (by simp) (by simp [a1]) (by simp [a2])) (by simp [pick, rnd, a0, a1, a2])
  · by_cases c : g 2 < g 0
    · exact key 2 (.inr (.inr rfl)) a2 (all (by intro _; omega) (by simp [a1]) (by simp)) (by simp [pick, rnd, a0, a1, a2, c, n0, n1, n2])
    · exact key 0 (.inl rfl) a0 (all (by simp) (by simp [a1]) (by intro _; omega)) (by simp [pick, rnd, a0, a1, a2, c, n0, n1, n2])
  · by_cases c : g 1 < g 0
    · exact key 1 (.inr (.inl rfl)) a1 (all (by intro _; omega) (by simp) (by simp [a2])) (by simp [pick, rnd, a0, a1, a2, c, n0, n1, n2])
    · exact key 0 (.inl rfl) a0 (all (by simp) (by intro _; omega) (by simp [a2])) (by simp [pick, rnd, a0, a1, a2, c, n0, n1, n2])
  · have n0 : ¬ g 0 < 0 := by omega
    have n1 : ¬ g 1 < 0 := by omega
    by_cases c : g 1 < g 0
    · by_cases d : g 2 < g 1
      · exact key 2 (.inr (.inr rfl)) a2 (all (by intro _; omega) (by intro _; omega) (by simp)) (by simp [pick, rnd, a0, a1, a2, c, d])
      · exact key 1 (.inr (.inl rfl)) a1 (all (by intro _; omega) (by simp) (by intro _; omega)) (by simp [pick, rnd, a0, a1, a2, c, d, n0, n1])
    · by_cases d : g 2 < g 0
      · exact key 2 (.inr (.inr rfl)) a2 (all (by intro _; omega) (by intro _; omega) (by simp)) (by simp [pick, rnd, a0, a1, a2, c, d, n0])
      · exact key 0 (.inl rfl) a0 (all (by simp) (by intro _; omega) (by intro _; omega)) (by simp [pick, rnd, a0, a1, a2, c, d, n0])

/-- The cost of a reading of a node, its parent's reading known. -/
def seenF (F : Cost) (p : Nat → Nat) (o : List Int) (i : Nat) (r : Int) : Int := F i r + if i = 0 then 0 else dd r (el o (p i))
def topD (F : Cost) (al : Nat → Int → Bool) (p : Nat → Nat) : Nat → List Int
  | 0 => []
  | i + 1 => topD F al p i ++ [pick (seenF F p (topD F al p i) i) (al i)]
theorem topD_len (F : Cost) (al : Nat → Int → Bool) (p : Nat → Nat) : ∀ i, (topD F al p i).length = i
  | 0 => rfl
  | i + 1 => by simp [topD, topD_len F al p i]
theorem el_app_lt {α : Type} [Inhabited α] (a b : List α) (i : Nat) (h : i < a.length) : el (a ++ b) i = el a i := by
  unfold el; rw [List.getD_eq_getElem?_getD, List.getD_eq_getElem?_getD, List.getElem?_append_left h]
theorem el_app_len {α : Type} [Inhabited α] (a : List α) (x : α) : el (a ++ [x]) a.length = x := by
  unfold el; rw [List.getD_eq_getElem?_getD, List.getElem?_append_right (Nat.le_refl _)]; simp
theorem topD_el (F : Cost) (al : Nat → Int → Bool) (p : Nat → Nat) (i : Nat) : ∀ n, i < n → el (topD F al p n) i = el (topD F al p (i + 1)) i
  | n + 1, h => by
    by_cases e : i = n
    · subst e; rfl
    · rw [topD, el_app_lt _ _ _ (by rw [topD_len]; omega)]
      exact topD_el F al p i n (by omega)
theorem topD_pick (F : Cost) (al : Nat → Int → Bool) (p : Nat → Nat) (hp : ∀ i, 1 ≤ i → p i < i) (n i : Nat) (h : i < n) : el (topD F al p n) i = pick (seenF F p (topD F al p n) i) (al i) := by
  rw [topD_el F al p i n h, topD]
  have := el_app_len (topD F al p i) (pick (seenF F p (topD F al p i) i) (al i))
  rw [topD_len] at this
  rw [this]
  congr 1
  funext r
  unfold seenF
  by_cases h0 : i = 0
  · simp [h0]
  · rw [if_neg h0, if_neg h0]
    have hpi := hp i (by omega)
    rw [topD_el F al p (p i) n (by omega), topD_el F al p (p i) i hpi]

section
variable {M : Int} {al : Nat → Int → Bool} {p : Nat → Nat} (hp : ∀ i, 1 ≤ i → p i < i) (hal : ∀ j, ∃ q, ok3 q ∧ al j q = true)
include hp hal in
/-- The readings from the first node on are allowed, and no allowed ones cost less. -/
theorem topD_best {b : Cost} {u : Nat → Int} (hb0 : ∀ j r, 0 ≤ b j r) (hu : ∀ j, 0 ≤ u j) (k : Nat) (hb : ∀ j r, j < k + 1 → ok3 r → al j r = true → b j r ≤ u j) (hM : sumU u (k + 1) + (k + 1) < M) {F : Cost} (hF : F = dpRun M al p (k + 1) b) {o : List Int} (ho : o = topD F al p (k + 1)) :
    (∀ i, i < k + 1 → ok3 (el o i) ∧ al i (el o i) = true) ∧ F 0 (el o 0) = sumB b (el o) (k + 1) + chg p (el o) k ∧ (∀ q, ok3 q → al 0 q = true → F 0 (el o 0) ≤ F 0 q) := by
  have hM0 : 0 ≤ M := by have := sumU_nn hu (k + 1); omega
  have hF0 : ∀ j r, 0 ≤ F j r := by rw [hF]; exact dp_nn hM0 (k + 1) b hb0
  have hFb : ∀ j r, j < k + 1 → ok3 r → al j r = true → F j r ≤ sumU u (k + 1) + ((k + 1 : Nat) : Int) := by rw [hF]; exact dp_bound hp hal (k + 1) b u hu hb
  have hs0 : ∀ i r, 0 ≤ seenF F p o i r := by
    intro i r
    unfold seenF
    have := hF0 i r
    split
    · omega
    · have := dd_nn r (el o (p i)); omega
  have hpk : ∀ i, i < k + 1 → ok3 (el o i) ∧ al i (el o i) = true ∧ ∀ q, ok3 q → al i q = true → seenF F p o i (el o i) ≤ seenF F p o i q := by
    intro i hi
    have e : el o i = pick (seenF F p o i) (al i) := by rw [ho]; exact topD_pick F al p hp (k + 1) i hi
    have := pick_best (g := seenF F p o i) (al := al i) (hs0 i) (hal i)
    rw [← e] at this
    exact this
  refine ⟨fun i hi => ⟨(hpk i hi).1, (hpk i hi).2.1⟩, ?_, ?_⟩
  · rw [hF]
    refine dp_equal hp k b (fun i hi => (hpk i hi).2.1) fun i h1 h2 => ?_
    rw [← hF]
    obtain ⟨a1, a2, a3⟩ := hpk i h2
    have hbest : ∀ q, ok3 q → al i q = true → F i (el o i) + dd (el o i) (el o (p i)) ≤ F i q + dd q (el o (p i)) := by
      intro q h3 h4
      have := a3 q h3 h4
      unfold seenF at this
      rw [if_neg (by omega), if_neg (by omega)] at this
      exact this
    have hsmall := hFb i (el o i) h2 a1 a2
    have hdd := dd_le (el o i) (el o (p i))
    refine Int.le_antisymm (leastF_le a1) (leastF_ge (by omega) fun q hq => ?_)
    cases hqa : al i q with
    | true => exact hbest q hq hqa
    | false =>
      have hFM : F i q = M := by rw [hF]; exact dp_forbidden hp hqa (k + 1) b h2
      have := dd_nn q (el o (p i))
      omega
  · intro q h1 h2
    have := (hpk 0 (by omega)).2.2 q h1 h2
    unfold seenF at this
    simpa using this
end
end Go.Proofs.Ytnpkaemlidifgaa
end

section
/- Plain: the fewest changes by both ways are the same; how many different members a list has. -/
namespace Go.Proofs.Ytnpkaemlidifgaa
open Go.Abs Go

/-! ### different members -/
/-- The members of a list that are not in another one, each once. -/
def freshL {α : Type} [DecidableEq α] : List α → List α → List α
  | _, [] => []
  | s, x :: l => if x ∈ s then freshL s l else x :: freshL (x :: s) l
theorem mem_freshL {α : Type} [DecidableEq α] {x : α} : ∀ {l s : List α}, x ∈ freshL s l ↔ x ∈ l ∧ x ∉ s
  | [], s => by simp [freshL]
  | y :: l, s => by
    rw [freshL]
    split
    · rename_i h
      rw [mem_freshL, List.mem_cons]
      constructor
      · rintro ⟨h1, h2⟩; exact ⟨.inr h1, h2⟩
      · rintro ⟨rfl | h1, h2⟩
        · exact absurd h h2
        · exact ⟨h1, h2⟩
    · rename_i h
      rw [List.mem_cons, mem_freshL, List.mem_cons, List.mem_cons, not_or]
      constructor
      · rintro (rfl | ⟨h1, h2, h3⟩)
        · exact ⟨.inl rfl, h⟩
        · exact ⟨.inr h1, h3⟩
      · rintro ⟨rfl | h1, h2⟩
        · exact .inl rfl
        · by_cases e : x = y
          · exact .inl e
          · exact .inr ⟨h1, e, h2⟩
theorem nodup_freshL {α : Type} [DecidableEq α] : ∀ {l s : List α}, (freshL s l).Nodup
  | [], s => by simp [freshL]
  | y :: l, s => by
    rw [freshL]
    split
    · exact nodup_freshL
    · rw [List.nodup_cons]
      refine ⟨fun h => ?_, nodup_freshL⟩
      have := (mem_freshL.1 h).2
      simp at this
theorem nodup_le {α : Type} [DecidableEq α] : ∀ {l m : List α}, l.Nodup → (∀ x ∈ l, x ∈ m) → l.length ≤ m.length
  | [], m, _, _ => by simp
  | x :: l, m, h, hs => by
    rw [List.nodup_cons] at h
    have hx := hs x (by simp)
    have h1 : l.length ≤ (m.erase x).length := nodup_le h.2 fun y hy => (List.mem_erase_of_ne (fun e => h.1 (by rw [← e]; exact hy))).2 (hs y (by simp [hy]))
    rw [List.length_erase_of_mem hx] at h1
    have : 0 < m.length := List.length_pos_of_mem hx
    simp only [List.length_cons]
    omega
theorem nodup_same {α : Type} [DecidableEq α] {l m : List α} (h : l.Nodup) (h' : m.Nodup) (hs : ∀ x, x ∈ l ↔ x ∈ m) : l.length = m.length :=
  Nat.le_antisymm (nodup_le h fun x => (hs x).1) (nodup_le h' fun x => (hs x).2)
/-- How many different members a list has. -/
def diffN {α : Type} [DecidableEq α] (l : List α) : Nat := (freshL [] l).length
theorem diffN_of {α : Type} [DecidableEq α] {l m : List α} (h : m.Nodup) (hs : ∀ x, x ∈ m ↔ x ∈ l) : diffN l = m.length :=
  nodup_same nodup_freshL h fun x => by rw [mem_freshL, hs]; simp
theorem diffN_le {α : Type} [DecidableEq α] {l m : List α} (hs : ∀ x ∈ l, x ∈ m) : diffN l ≤ diffN m :=
  nodup_le nodup_freshL fun x hx => mem_freshL.2 ⟨hs x (mem_freshL.1 hx).1, by simp⟩
theorem diffN_congr {α : Type} [DecidableEq α] {l m : List α} (hs : ∀ x, x ∈ l ↔ x ∈ m) : diffN l = diffN m :=
  Nat.le_antisymm (diffN_le fun x => (hs x).1) (diffN_le fun x => (hs x).2)
theorem diffN_cons {α : Type} [DecidableEq α] (x : α) (l : List α) : diffN (x :: l) = if x ∈ l then diffN l else diffN l + 1 := by
  by_cases h : x ∈ l
  · rw [if_pos h]
    exact diffN_congr fun y => by
      rw [List.mem_cons]
      constructor
      · rintro (rfl | hy)
        · exact h
        · exact hy
      · exact .inr
  · rw [if_neg h]
    have : (x :: freshL [] l).Nodup := by
      rw [List.nodup_cons]
      exact ⟨fun hx => h (mem_freshL.1 hx).1, nodup_freshL⟩
    rw [diffN_of this fun y => by simp [mem_freshL]]
    simp [diffN]
theorem diffN_len {α : Type} [DecidableEq α] (l : List α) : diffN l ≤ l.length := nodup_le nodup_freshL fun x hx => (mem_freshL.1 hx).1
theorem diffN_nil {α : Type} [DecidableEq α] : diffN ([] : List α) = 0 := rfl
/-! ### trees -/
def pf (par : List Int) (i : Nat) : Nat := min (el par i).toNat (i - 1)
theorem pf_lt (par : List Int) (i : Nat) (h : 1 ≤ i) : pf par i < i := by unfold pf; omega
/-- The number of different readings of the first nodes is at most one more than their changes. -/
theorem diff_chg {p : Nat → Nat} (hp : ∀ i, 1 ≤ i → p i < i) (rd : Nat → Int) : ∀ k, (diffN ((List.range (k + 1)).map rd) : Int) ≤ 1 + chg p rd k
  | 0 => by simp [diffN_cons, diffN_nil, chg]
  | k + 1 => by
    have ih := diff_chg hp rd k
    have e : ∀ y, y ∈ (List.range (k + 1 + 1)).map rd ↔ y ∈ rd (k + 1) :: (List.range (k + 1)).map rd := by
      intro y
      rw [List.range_succ, List.map_append, List.mem_append, List.mem_cons]
      simp [or_comm]
    rw [diffN_congr e, diffN_cons]
    have hdn := dd_nn (rd (k + 1)) (rd (p (k + 1)))
    simp only [chg]
    split
    · omega
    · rename_i hn
      have hne : rd (k + 1) ≠ rd (p (k + 1)) := fun e => hn (by
        rw [e]
        exact List.mem_map.2 ⟨p (k + 1), List.mem_range.2 (by have := hp (k + 1) (by omega); omega), rfl⟩)
      have : dd (rd (k + 1)) (rd (p (k + 1))) = 1 := by unfold dd; rw [if_neg hne]
      rw [this]
      omega

/-! ### copies at nodes -/
/-- The readings that copies fix, a pair of node and reading for each; none if two differ at a node. -/
def fixF : List Int → List (Int × Int) → Option (List Int)
  | own, [] => some own
  | own, (n, v) :: l => if 0 ≤ el own n.toNat ∧ el own n.toNat ≠ v then none else fixF (own.set n.toNat v) l
def fits (rd : Nat → Int) (l : List (Int × Int)) : Prop := ∀ x ∈ l, rd x.1.toNat = x.2
structure PairsOK (N : Nat) (l : List (Int × Int)) : Prop where
  node : ∀ x ∈ l, 0 ≤ x.1 ∧ x.1.toNat < N
  val : ∀ x ∈ l, ok3 x.2
theorem ok3_nn {r : Int} (h : ok3 r) : 0 ≤ r := by rcases h with rfl | rfl | rfl <;> decide
theorem PairsOK.tail {N : Nat} {x : Int × Int} {l : List (Int × Int)} (h : PairsOK N (x :: l)) : PairsOK N l := ⟨fun y hy => h.node y (by simp [hy]), fun y hy => h.val y (by simp [hy])⟩
theorem el_put {α : Type} [Inhabited α] (o : List α) (i k : Nat) (v : α) (hi : i < o.length) : el (o.set i v) k = if i = k then v else el o k := by
  unfold el
  rw [List.getD_eq_getElem?_getD, List.getD_eq_getElem?_getD, List.getElem?_set]
  by_cases h : i = k
  · subst h; simp [hi]
  · simp [h]
theorem fix_some {N : Nat} : ∀ {l : List (Int × Int)} {own own' : List Int}, PairsOK N l → own.length = N → fixF own l = some own' →
    own'.length = N ∧ (∀ i, 0 ≤ el own i → el own' i = el own i) ∧ (∀ x ∈ l, el own' x.1.toNat = x.2) ∧ ∀ i, 0 ≤ el own' i → el own' i = el own i ∨ ∃ x ∈ l, x.1.toNat = i ∧ x.2 = el own' i
  | [], own, own', _, hl, h => by
    simp only [fixF, Option.some.injEq] at h
    subst h
    exact ⟨hl, fun _ _ => rfl, by simp, fun _ _ => .inl rfl⟩
  | (n, v) :: l, own, own', hok, hl, h => by
    have hn := hok.node (n, v) (by simp)
    have hv := ok3_nn (hok.val (n, v) (by simp))
    dsimp only at hn hv
    rw [fixF] at h
    split at h
    · cases h
    · rename_i hc
      have hi : n.toNat < own.length := by omega
      obtain ⟨h1, h2, h3, h4⟩ := fix_some hok.tail (by rw [List.length_set]; exact hl) h
      have hnv : el own' n.toNat = v := by
        have := h2 n.toNat (by rw [el_put _ _ _ _ hi, if_pos rfl]; exact hv)
        rw [this, el_put _ _ _ _ hi, if_pos rfl]
      refine ⟨h1, fun i hi0 => ?_, fun x hx => ?_, fun i hi0 => ?_⟩
      · by_cases e : n.toNat = i
        · subst e
          rw [hnv]
          apply Classical.byContradiction
          intro hne
          exact hc ⟨hi0, fun e => hne e.symm⟩
        · have := h2 i (by rw [el_put _ _ _ _ hi, if_neg e]; exact hi0)
          rw [this, el_put _ _ _ _ hi, if_neg e]
      · rcases List.mem_cons.1 hx with rfl | hx
        · exact hnv
        · exact h3 x hx
      · rcases h4 i hi0 with e | ⟨x, hx, e1, e2⟩
        · rw [el_put _ _ _ _ hi] at e
          split at e
          · rename_i e2
            exact .inr ⟨(n, v), by simp, e2, e.symm⟩
          · exact .inl e
        · exact .inr ⟨x, by simp [hx], e1, e2⟩
theorem fix_none {N : Nat} {rd : Nat → Int} : ∀ {l : List (Int × Int)} {own : List Int}, PairsOK N l → own.length = N → fixF own l = none → (∀ i, 0 ≤ el own i → rd i = el own i) → ¬ fits rd l
  | [], own, _, _, h, _ => by simp [fixF] at h
  | (n, v) :: l, own, hok, hl, h, hr => by
    have hn := hok.node (n, v) (by simp)
    dsimp only at hn
    intro hf
    have hnv := hf (n, v) (by simp)
    dsimp only at hnv
    rw [fixF] at h
    split at h
    · rename_i hc
      have := hr n.toNat hc.1
      rw [hnv] at this
      exact hc.2 this.symm
    · have hi : n.toNat < own.length := by omega
      refine fix_none hok.tail (by rw [List.length_set]; exact hl) h (fun i hi0 => ?_) fun x hx => hf x (by simp [hx])
      rw [el_put _ _ _ _ hi] at hi0 ⊢
      split
      · rename_i e; rw [← e]; exact hnv
      · rename_i e; rw [if_neg e] at hi0; exact hr i hi0

/-! ### costs of copies -/
def costL : List (Int × Int) → Cost
  | [] => fun _ _ => 0
  | (n, v) :: l => fun j r => (if n.toNat = j ∧ v ≠ r then 1000 else 0) + costL l j r
def misM (rd : Nat → Int) : List (Int × Int) → Int
  | [] => 0
  | (n, v) :: l => (if rd n.toNat = v then 0 else 1000) + misM rd l
def uL : List (Int × Int) → Nat → Int
  | [] => fun _ => 0
  | (n, _) :: l => fun j => (if n.toNat = j then 1000 else 0) + uL l j
theorem costL_nn : ∀ (l : List (Int × Int)) (j : Nat) (r : Int), 0 ≤ costL l j r
  | [], _, _ => Int.le_refl 0
  | (n, v) :: l, j, r => by have := costL_nn l j r; simp only [costL]; split <;> omega
theorem uL_nn : ∀ (l : List (Int × Int)) (j : Nat), 0 ≤ uL l j
  | [], _ => Int.le_refl 0
  | (n, v) :: l, j => by have := uL_nn l j; simp only [uL]; split <;> omega
theorem costL_le : ∀ (l : List (Int × Int)) (j : Nat) (r : Int), costL l j r ≤ uL l j
  | [], _, _ => Int.le_refl 0
  | (n, v) :: l, j, r => by
    have := costL_le l j r
    simp only [costL, uL]
    by_cases h : n.toNat = j
    · rw [if_pos h]; split <;> omega
    · rw [if_neg h, if_neg (fun e => h e.1)]; omega
theorem sumU_add (u v : Nat → Int) : ∀ k, sumU (fun j => u j + v j) k = sumU u k + sumU v k
  | 0 => rfl
  | k + 1 => by simp only [sumU, sumU_add u v k]; omega
theorem sumU_one (q : Nat) (x : Int) (hx : 0 ≤ x) : ∀ k, sumU (fun j => if q = j then x else 0) k ≤ x ∧ (k ≤ q → sumU (fun j => if q = j then x else 0) k = 0)
  | 0 => ⟨hx, fun _ => rfl⟩
  | k + 1 => by
    obtain ⟨h1, h2⟩ := sumU_one q x hx k
    simp only [sumU]
    by_cases e : q = k
    · rw [if_pos e]
      have := h2 (by omega)
      exact ⟨by omega, fun h => by omega⟩
    · rw [if_neg e]
      exact ⟨by omega, fun h => by have := h2 (by omega); omega⟩
theorem sumU_uL (N : Nat) : ∀ l : List (Int × Int), sumU (uL l) N ≤ 1000 * l.length
  | [] => by
    have : ∀ k, sumU (fun _ => 0) k = 0 := by
      intro k
      induction k with
      | zero => rfl
      | succ k ih => simp only [sumU, ih]; rfl
    simp only [uL, this]
    simp
  | (n, v) :: l => by
    have ih := sumU_uL N l
    have h1 := (sumU_one n.toNat 1000 (by omega) N).1
    have e : uL ((n, v) :: l) = fun j => (if n.toNat = j then 1000 else 0) + uL l j := rfl
    rw [e, sumU_add]
    simp only [List.length_cons]
    omega
theorem sumB_add (b c : Cost) (rd : Nat → Int) : ∀ k, sumB (fun j r => b j r + c j r) rd k = sumB b rd k + sumB c rd k
  | 0 => rfl
  | k + 1 => by simp only [sumB, sumB_add b c rd k]; omega
theorem sumB_one (rd : Nat → Int) (q : Nat) (v : Int) : ∀ k, sumB (fun j r => if q = j ∧ v ≠ r then 1000 else 0) rd k = if q < k then (if rd q = v then 0 else 1000) else 0
  | 0 => by simp [sumB]
  | k + 1 => by
    rw [sumB, sumB_one rd q v k]
    by_cases e : q = k
    · subst e
      have h1 : ¬ q < q := by omega
      have h2 : q < q + 1 := by omega
      by_cases h : rd q = v
      · simp [h1, h2, h]
      · have h' : ¬ v = rd q := fun x => h x.symm
        simp [h1, h2, h, h']
    · by_cases h : q < k
      · have h2 : q < k + 1 := by omega
        simp [e, h, h2]
      · have h2 : ¬ q < k + 1 := by omega
        simp [e, h, h2]
theorem sum_cost {N : Nat} (rd : Nat → Int) : ∀ {l : List (Int × Int)}, PairsOK N l → sumB (costL l) rd N = misM rd l
  | [], _ => by
    have : ∀ k, sumB (fun _ _ => 0) rd k = 0 := by
      intro k
      induction k with
      | zero => rfl
      | succ k ih => simp only [sumB, ih]; rfl
    simp only [costL, misM, this]
  | (n, v) :: l, h => by
    have e : costL ((n, v) :: l) = fun j r => (if n.toNat = j ∧ v ≠ r then 1000 else 0) + costL l j r := rfl
    rw [e, sumB_add, sumB_one, sum_cost rd h.tail, if_pos (h.node (n, v) (by simp)).2]
    rfl
theorem mis_nn (rd : Nat → Int) : ∀ l : List (Int × Int), 0 ≤ misM rd l
  | [] => Int.le_refl 0
  | (n, v) :: l => by have := mis_nn rd l; simp only [misM]; split <;> omega
theorem mis_zero {rd : Nat → Int} : ∀ {l : List (Int × Int)}, fits rd l → misM rd l = 0
  | [], _ => rfl
  | (n, v) :: l, h => by
    have h1 := h (n, v) (by simp)
    dsimp only at h1
    have h2 : misM rd l = 0 := mis_zero (l := l) fun x hx => h x (by simp [hx])
    simp only [misM, if_pos h1, h2]
    rfl
theorem mis_fits {rd : Nat → Int} : ∀ {l : List (Int × Int)}, misM rd l < 1000 → fits rd l
  | [], _ => by intro x hx; cases hx
  | (n, v) :: l, h => by
    have h0 := mis_nn rd l
    simp only [misM] at h
    by_cases e : rd n.toNat = v
    · rw [if_pos e] at h
      intro x hx
      rcases List.mem_cons.1 hx with rfl | hx
      · exact e
      · exact mis_fits (by omega) x hx
    · rw [if_neg e] at h; omega

/-! ### both ways -/
/-- What a node may read. -/
def alM (own : List Int) (i : Nat) (r : Int) : Bool := decide (el own i < 0 ∨ el own i = r)
def zeroC : Cost := fun _ _ => 0
/-- The program's costs, and the readings that it takes. -/
def costP (par own : List Int) : Cost := dpRun 17 (alM own) (pf par) par.length zeroC
def readM (par own : List Int) : List Int := topD (costP par own) (alM own) (pf par) par.length
def bestR (par : List Int) (l : List (Int × Int)) : Option (List Int) := (fixF (List.replicate par.length (-1)) l).map (readM par)
/-- The changes of readings. -/
def chgM (par rd : List Int) : Int := chg (pf par) (el rd) (par.length - 1)
/-- The document's costs, and its smallest number. -/
def costR (par : List Int) (l : List (Int × Int)) : Cost := dpRun 1000000 (fun _ _ => true) (pf par) par.length (costL l)
def fewN (par : List Int) (l : List (Int × Int)) : Int := min (min (costR par l 0 0) (costR par l 0 1)) (costR par l 0 2)

structure TreeOK (par : List Int) (l : List (Int × Int)) : Prop where
  pos : 1 ≤ par.length
  top : par.length ≤ 16
  pairs : PairsOK par.length l
  num : l.length ≤ 6
theorem el_minus (n i : Nat) : el (List.replicate n (-1 : Int)) i = -1 ∨ el (List.replicate n (-1 : Int)) i = 0 ∧ n ≤ i := by
  unfold el
  rw [List.getD_eq_getElem?_getD, List.getElem?_replicate]
  by_cases h : i < n
  · simp [h]
  · simp [h]; omega
theorem al_has {par : List Int} {l : List (Int × Int)} (h : TreeOK par l) {own : List Int} (hf : fixF (List.replicate par.length (-1)) l = some own) (j : Nat) : ∃ q, ok3 q ∧ alM own j q = true := by
  obtain ⟨h1, h2, h3, h4⟩ := fix_some h.pairs (by simp) hf
  by_cases hj : el own j < 0
  · exact ⟨0, .inl rfl, by simp [alM, hj]⟩
  · refine ⟨el own j, ?_, by simp [alM]⟩
    rcases h4 j (by omega) with e | ⟨x, hx, _, e⟩
    · rcases el_minus par.length j with e2 | ⟨e2, _⟩
      · rw [e2] at e; omega
      · rw [e2] at e; rw [e]; exact .inl rfl
    · rw [← e]; exact h.pairs.val x hx
theorem al_fits {par : List Int} {l : List (Int × Int)} (h : TreeOK par l) {own : List Int} (hf : fixF (List.replicate par.length (-1)) l = some own) {rd : Nat → Int} : (∀ i, i < par.length → alM own i (rd i) = true) ↔ fits rd l := by
  obtain ⟨h1, h2, h3, h4⟩ := fix_some h.pairs (by simp) hf
  constructor
  · intro ha x hx
    have hn := h.pairs.node x hx
    have := ha x.1.toNat hn.2
    have hv := ok3_nn (h.pairs.val x hx)
    unfold alM at this
    rw [h3 x hx] at this
    simp only [decide_eq_true_eq] at this
    omega
  · intro hfit i hi
    unfold alM
    simp only [decide_eq_true_eq]
    by_cases hj : el own i < 0
    · exact .inl hj
    · rcases h4 i (by omega) with e | ⟨x, hx, e1, e⟩
      · rcases el_minus par.length i with e2 | ⟨_, e2⟩
        · rw [e2] at e; omega
        · omega
      · have := hfit x hx
        rw [e1] at this
        exact .inr (by rw [this, e])
theorem readM_len (par own : List Int) : (readM par own).length = par.length := topD_len _ _ _ _
/-- The readings that the program takes are right, and none have fewer changes. -/
theorem best_is {par : List Int} {l : List (Int × Int)} (h : TreeOK par l) {own : List Int} (hf : fixF (List.replicate par.length (-1)) l = some own) :
    (∀ i, i < par.length → ok3 (el (readM par own) i)) ∧ fits (el (readM par own)) l ∧ ∀ rd : Nat → Int, (∀ i, ok3 (rd i)) → fits rd l → chgM par (readM par own) ≤ chg (pf par) rd (par.length - 1) := by
  obtain ⟨k, hk⟩ : ∃ k, par.length = k + 1 := ⟨par.length - 1, by have := h.pos; omega⟩
  have hsz : ∀ k, sumU (fun _ => 0) k = 0 := by
    intro k
    induction k with
    | zero => rfl
    | succ k ih => simp only [sumU, ih]; rfl
  have hsb : ∀ (rd : Nat → Int) k, sumB zeroC rd k = 0 := by
    intro rd k
    induction k with
    | zero => rfl
    | succ k ih => simp only [sumB, ih]; rfl
  have hF : costP par own = dpRun 17 (alM own) (pf par) (k + 1) zeroC := by unfold costP; rw [hk]
  have ho : readM par own = topD (costP par own) (alM own) (pf par) (k + 1) := by unfold readM; rw [hk]
  have htop := h.top
  obtain ⟨b1, b2, b3⟩ := topD_best (M := 17) (al := alM own) (p := pf par) (pf_lt par) (al_has h hf) (b := zeroC) (u := fun _ => 0) (fun _ _ => Int.le_refl 0) (fun _ => Int.le_refl 0) k (fun _ _ _ _ _ => Int.le_refl 0) (by rw [hsz]; omega) hF ho
  refine ⟨fun i hi => (b1 i (by omega)).1, (al_fits h hf).1 fun i hi => (b1 i (by omega)).2, fun rd hrd hfit => ?_⟩
  have hal := (al_fits h hf).2 hfit
  have h1 := dp_lower (M := 17) (al := alM own) (p := pf par) (pf_lt par) hrd k zeroC fun i hi => hal i (by omega)
  have h2 := b3 (rd 0) (hrd 0) (hal 0 (by omega))
  rw [← hF] at h1
  rw [hsb] at h1 b2
  unfold chgM
  have e : par.length - 1 = k := by omega
  rw [e]
  omega
/-- The document's smallest number is that of some readings. -/
theorem few_is {par : List Int} {l : List (Int × Int)} (h : TreeOK par l) :
    (∃ o : List Int, (∀ i, i < par.length → ok3 (el o i)) ∧ o.length = par.length ∧ fewN par l = misM (el o) l + chg (pf par) (el o) (par.length - 1)) ∧ ∀ rd : Nat → Int, (∀ i, ok3 (rd i)) → fewN par l ≤ misM rd l + chg (pf par) rd (par.length - 1) := by
  obtain ⟨k, hk⟩ : ∃ k, par.length = k + 1 := ⟨par.length - 1, by have := h.pos; omega⟩
  have e : par.length - 1 = k := by omega
  have hF : costR par l = dpRun 1000000 (fun _ _ => true) (pf par) (k + 1) (costL l) := by unfold costR; rw [hk]
  have htop := h.top
  have hnum := h.num
  have hsu := sumU_uL (k + 1) l
  obtain ⟨b1, b2, b3⟩ := topD_best (M := 1000000) (al := fun _ _ => true) (p := pf par) (pf_lt par) (fun _ => ⟨0, .inl rfl, rfl⟩) (b := costL l) (u := uL l) (costL_nn l) (uL_nn l) k (fun j r _ _ _ => costL_le l j r) (by omega) hF (o := topD (costR par l) (fun _ _ => true) (pf par) (k + 1)) rfl
  generalize ho : topD (costR par l) (fun _ _ => true) (pf par) (k + 1) = o at b1 b2 b3
  have hol : o.length = par.length := by rw [← ho, topD_len, hk]
  have hpairs := h.pairs
  rw [hk] at hpairs
  rw [sum_cost _ hpairs] at b2
  refine ⟨⟨o, fun i hi => (b1 i (by omega)).1, hol, ?_⟩, fun rd hrd => ?_⟩
  · rw [e, ← b2]
    have c0 := b3 0 (.inl rfl) rfl
    have c1 := b3 1 (.inr (.inl rfl)) rfl
    have c2 := b3 2 (.inr (.inr rfl)) rfl
    unfold fewN
    rcases (b1 0 (by omega)).1 with e0 | e0 | e0 <;> rw [e0] at c0 c1 c2 ⊢ <;> omega
  · have h1 := dp_lower (M := 1000000) (al := fun _ _ => true) (p := pf par) (pf_lt par) hrd k (costL l) fun _ _ => rfl
    rw [← hF, sum_cost _ hpairs] at h1
    rw [e]
    unfold fewN
    rcases hrd 0 with e0 | e0 | e0 <;> rw [e0] at h1 <;> omega
theorem ok3_all {o : List Int} {n : Nat} (hl : o.length = n) (h : ∀ i, i < n → ok3 (el o i)) (i : Nat) : ok3 (el o i) := by
  by_cases hi : i < n
  · exact h i hi
  · unfold el
    rw [List.getD_eq_getElem?_getD, List.getElem?_eq_none (by omega)]
    exact .inl rfl
/-- Both find the same. -/
theorem few_same {par : List Int} {l : List (Int × Int)} (h : TreeOK par l) : match bestR par l with | some o => fewN par l = chgM par o ∧ fewN par l < 1000 | none => 1000 ≤ fewN par l := by
  obtain ⟨⟨o, o1, o2, o3⟩, f2⟩ := few_is h
  unfold bestR
  cases hf : fixF (List.replicate par.length (-1)) l with
  | none =>
    simp only [Option.map_none]
    have hnf : ¬ fits (el o) l := fix_none h.pairs (by simp) hf fun i hi => by
      rcases el_minus par.length i with e | ⟨e, e2⟩
      · rw [e] at hi; omega
      · rw [e]
        unfold el
        rw [List.getD_eq_getElem?_getD, List.getElem?_eq_none (by omega)]; rfl
    have hmis : 1000 ≤ misM (el o) l := by
      apply Classical.byContradiction
      intro hc
      exact hnf (mis_fits (by omega))
    have := chg_nn (pf par) (el o) (par.length - 1)
    omega
  | some own =>
    simp only [Option.map_some]
    obtain ⟨b1, b2, b3⟩ := best_is h hf
    have hall := ok3_all (readM_len par own) b1
    have h1 := f2 (el (readM par own)) hall
    rw [mis_zero b2] at h1
    have hc := chg_le (pf par) (el (readM par own)) (par.length - 1)
    have htop := h.top
    have hlt : fewN par l < 1000 := by omega
    have hcn := chg_nn (pf par) (el o) (par.length - 1)
    have hfo : fits (el o) l := mis_fits (by omega)
    have h2 := b3 (el o) (ok3_all o2 o1) hfo
    rw [mis_zero hfo] at o3
    unfold chgM at h2 ⊢
    exact ⟨by omega, hlt⟩
/-- At least one change for each reading but one. -/
theorem diff_few {par rd : List Int} {l : List (Int × Int)} (h : TreeOK par l) (hfit : fits (el rd) l) : (diffN (l.map (·.2)) : Int) ≤ 1 + chgM par rd := by
  have h1 := diff_chg (pf_lt par) (el rd) (par.length - 1)
  have h2 : diffN (l.map (·.2)) ≤ diffN ((List.range (par.length - 1 + 1)).map (el rd)) := by
    refine diffN_le fun y hy => ?_
    obtain ⟨x, hx, rfl⟩ := List.mem_map.1 hy
    have hn := h.pairs.node x hx
    have := h.pos
    exact List.mem_map.2 ⟨x.1.toNat, List.mem_range.2 (by omega), hfit x hx⟩
  unfold chgM
  omega
end Go.Proofs.Ytnpkaemlidifgaa
end

section
/- Plain: words in ascending order; a list into which words are put in order; words by a queue and by going deep are the same. -/
namespace Go.Proofs.Ytnpkaemlidifgaa
open Go.Abs Go

theorem el_mem_of {α : Type} [Inhabited α] (o : List α) (k : Nat) (h : k < o.length) : el o k ∈ o := by rw [el_eq o k h]; exact List.getElem_mem h
/-- Whether a word comes before another one. -/
def bef : List Int → List Int → Bool
  | _, [] => false
  | [], _ :: _ => true
  | x :: a, y :: b => if x = y then bef a b else decide (x < y)
theorem bef_irr : ∀ a : List Int, bef a a = false
  | [] => rfl
  | x :: a => by simp [bef, bef_irr a]
theorem bef_trans : ∀ {a b c : List Int}, bef a b = true → bef b c = true → bef a c = true
  | [], [], c, h, _ => by simp [bef] at h
  | _ :: _, [], c, h, _ => by simp [bef] at h
  | a, _ :: _, [], _, h => by simp [bef] at h
  | [], _ :: _, _ :: _, _, _ => rfl
  | x :: a, y :: b, z :: c, h1, h2 => by
    simp only [bef] at h1 h2 ⊢
    by_cases e1 : x = y
    · subst e1
      by_cases e2 : x = z
      · subst e2
        simp only [if_true] at h1 h2 ⊢
        exact bef_trans h1 h2
      · rw [if_neg e2] at h2 ⊢
        exact h2
    · rw [if_neg e1] at h1
      simp only [decide_eq_true_eq] at h1
      by_cases e2 : y = z
      · subst e2
        rw [if_neg e1]
        simpa using h1
      · rw [if_neg e2] at h2
        simp only [decide_eq_true_eq] at h2
        rw [if_neg (by omega)]
        simp only [decide_eq_true_eq]
        omega
theorem bef_total : ∀ {a b : List Int}, a ≠ b → bef a b = true ∨ bef b a = true
  | [], [], h => absurd rfl h
  | [], _ :: _, _ => .inl rfl
  | _ :: _, [], _ => .inr rfl
  | x :: a, y :: b, h => by
    simp only [bef]
    by_cases e : x = y
    · subst e
      simp only [if_true]
      exact bef_total fun e => h (by rw [e])
    · have e' : ¬ y = x := fun q => e q.symm
      rw [if_neg e, if_neg e']
      simp only [decide_eq_true_eq]
      omega
end Go.Proofs.Ytnpkaemlidifgaa
end

section
/- Plain: readings of copies: errors, columns, sides, conflicts. -/
namespace Go.Proofs.Ytnpkaemlidifgaa
open Go.Abs Go

def okR (n : Int) : Bool := decide (0 ≤ n) && decide (n ≤ 2)
def rowBad (k : Nat) (r : List Int) : Bool := decide (r.length ≠ k) || r.any fun n => !okR n
/-- The first error of readings. -/
def vErr (t : List (List Int)) : Int :=
  if t.length = 0 ∨ 6 < t.length then 3 else if 6 < (el t 0).length then 3
  else if t.any (rowBad (el t 0).length) then 1 else 0
def wid (t : List (List Int)) : Nat := (el t 0).length
structure Rds (t : List (List Int)) : Prop where
  pos : 1 ≤ t.length
  num : t.length ≤ 6
  w6 : wid t ≤ 6
  rows : ∀ r ∈ t, r.length = wid t
  rd : ∀ r ∈ t, ∀ x ∈ r, 0 ≤ x ∧ x ≤ 2
theorem vErr_zero {t : List (List Int)} (h : vErr t = 0) : Rds t := by
  unfold vErr at h
  split at h
  · cases h
  · rename_i h1
    split at h
    · cases h
    · rename_i h2
      split at h
      · cases h
      · rename_i h3
        have h3' : ∀ r ∈ t, rowBad (el t 0).length r = false := by
          intro r hr
          cases hb : rowBad (el t 0).length r with
          | false => rfl
          | true => exact absurd (List.any_eq_true.2 ⟨r, hr, hb⟩) h3
        refine ⟨by omega, by omega, by unfold wid; omega, fun r hr => ?_, fun r hr x hx => ?_⟩
        · have := h3' r hr
          simp only [rowBad, Bool.or_eq_false_iff, decide_eq_false_iff_not, Decidable.not_not] at this
          exact this.1
        · have := h3' r hr
          simp only [rowBad, Bool.or_eq_false_iff, List.any_eq_false, okR] at this
          have := this.2 x hx
          simpa using this
/-- The readings at a place. -/
def colM (t : List (List Int)) (p : Nat) : List Int := t.map fun r => el r p
theorem colM_len (t : List (List Int)) (p : Nat) : (colM t p).length = t.length := by simp [colM]
theorem el_map {α β : Type} [Inhabited α] [Inhabited β] (f : α → β) (l : List α) (i : Nat) (h : i < l.length) : el (l.map f) i = f (el l i) := by
  unfold el; simp [List.getD_eq_getElem?_getD, h]
theorem el_col {t : List (List Int)} {p i : Nat} (h : i < t.length) : el (colM t p) i = el (el t i) p := el_map _ _ _ h
theorem Rds.row {t : List (List Int)} (h : Rds t) {i : Nat} (hi : i < t.length) : (el t i).length = wid t := h.rows _ (el_mem_of t i hi)
theorem Rds.val {t : List (List Int)} (h : Rds t) {i p : Nat} (hi : i < t.length) (hp : p < wid t) : 0 ≤ el (el t i) p ∧ el (el t i) p ≤ 2 :=
  h.rd _ (el_mem_of t i hi) _ (el_mem_of _ p (by rw [h.row hi]; exact hp))
theorem Rds.col {t : List (List Int)} (h : Rds t) {p : Nat} (hp : p < wid t) : ∀ x ∈ colM t p, 0 ≤ x ∧ x ≤ 2 := by
  intro x hx
  obtain ⟨r, hr, rfl⟩ := List.mem_map.1 hx
  exact h.rd r hr _ (el_mem_of _ p (by rw [h.rows r hr]; exact hp))
/-- Whether a place is none. -/
def noPlace (t : List (List Int)) (p : Int) : Bool := !(decide (0 ≤ p) && decide (p ≤ (wid t : Int) - 1))
def placedErr (t : List (List Int)) (ps : List Int) : Int := if vErr t ≠ 0 then vErr t else if ps.any (noPlace t) then 4 else 0
/-- The copies from a number on that read otherwise. -/
def sideF (x : Int) : Nat → List Int → List Int
  | _, [] => []
  | i, n :: l => if n ≠ x then (i : Int) :: sideF x (i + 1) l else sideF x (i + 1) l
def confM (t : List (List Int)) (p q : Nat) : Bool := decide (diffN (colM t p) = 2) && decide (diffN (colM t q) = 2) && decide (diffN ((colM t p).zip (colM t q)) = 4)
/-- The pairs from two places on that conflict. -/
def confsF (t : List (List Int)) (p : Nat) : Nat → Nat → List (Nat × Nat)
  | _, 0 => []
  | q, n + 1 => if confM t p q then (p, q) :: confsF t p (q + 1) n else confsF t p (q + 1) n
def confsG (t : List (List Int)) (w : Nat) : Nat → Nat → List (Nat × Nat)
  | _, 0 => []
  | p, n + 1 => confsF t p (p + 1) (w - (p + 1)) ++ confsG t w (p + 1) n
def confsM (t : List (List Int)) : List (Nat × Nat) := confsG t (wid t) 0 (wid t)
/-! ### trees -/
def parBad : Nat → List Int → Bool
  | _, [] => false
  | i, p :: l => (decide (0 < i) && !(decide (0 ≤ p) && decide (p ≤ (i : Int) - 1))) || parBad (i + 1) l
def treeErr (par ats : List Int) : Int :=
  if par.length = 0 ∨ 16 < par.length then 3 else if 6 < ats.length then 3 else if el par 0 ≠ -1 then 1 else if parBad 0 par then 1
  else if ats.any (fun n => !(decide (0 ≤ n) && decide (n ≤ (par.length : Int) - 1))) then 1 else 0
structure Treed (par ats : List Int) : Prop where
  pos : 1 ≤ par.length
  top : par.length ≤ 16
  num : ats.length ≤ 6
  root : el par 0 = -1
  parR : ∀ i, 1 ≤ i → i < par.length → 0 ≤ el par i ∧ el par i ≤ (i : Int) - 1
  atsR : ∀ n ∈ ats, 0 ≤ n ∧ n ≤ (par.length : Int) - 1
theorem parBad_get : ∀ {l : List Int} {i : Nat}, parBad i l = false → ∀ k, k < l.length → 0 < i + k → 0 ≤ el l k ∧ el l k ≤ ((i + k : Nat) : Int) - 1
  | p :: l, i, h, 0, hk, h0 => by
    simp only [parBad, Bool.or_eq_false_iff, Bool.and_eq_false_imp, decide_eq_true_eq] at h
    have := h.1 (by omega)
    simpa [el] using this
  | p :: l, i, h, k + 1, hk, h0 => by
    simp only [parBad, Bool.or_eq_false_iff] at h
    have := parBad_get (l := l) (i := i + 1) h.2 k (by simpa using hk) (by omega)
    rw [show i + 1 + k = i + (k + 1) by omega] at this
    exact this
theorem treeErr_zero {par ats : List Int} (h : treeErr par ats = 0) : Treed par ats := by
  unfold treeErr at h
  split at h
  · cases h
  · rename_i h1
    split at h
    · cases h
    · rename_i h2
      split at h
      · cases h
      · rename_i h3
        split at h
        · cases h
        · rename_i h4
          split at h
          · cases h
          · rename_i h5
            refine ⟨by omega, by omega, by omega, by simpa using h3, fun i h6 h7 => ?_, fun n hn => ?_⟩
            · have := parBad_get (by simpa using h4) i h7 (by omega)
              simpa using this
            · simp only [Bool.not_eq_true, List.any_eq_false] at h5
              have := h5 n hn
              simpa using this
theorem Treed.pfE {par ats : List Int} (h : Treed par ats) {i : Nat} (h1 : 1 ≤ i) (hi : i < par.length) : pf par i = (el par i).toNat ∧ ((pf par i : Nat) : Int) = el par i := by
  have := h.parR i h1 hi
  unfold pf
  omega
/-- The node and the reading of each copy. -/
def prs (t : List (List Int)) (ats : List Int) (p : Nat) : List (Int × Int) := ats.zip (colM t p)
theorem treeOK_of {t : List (List Int)} {par ats : List Int} (ht : Rds t) (hx : Treed par ats) (hl : ats.length = t.length) {p : Nat} (hp : p < wid t) : TreeOK par (prs t ats p) := by
  refine ⟨hx.pos, hx.top, ⟨fun x hm => ?_, fun x hm => ?_⟩, ?_⟩
  · have := hx.atsR x.1 (List.of_mem_zip hm).1
    have := hx.pos
    omega
  · have := ht.col hp x.2 (List.of_mem_zip hm).2
    unfold ok3; omega
  · have := hx.num
    simp only [prs, List.length_zip, colM_len]; omega
theorem prs_snd {t : List (List Int)} {ats : List Int} (hl : ats.length = t.length) (p : Nat) : (prs t ats p).map (·.2) = colM t p := by
  unfold prs
  rw [List.map_snd_zip]
  rw [colM_len]; omega
end Go.Proofs.Ytnpkaemlidifgaa
end

section
/- Plain: places conflict exactly if their sides do. -/
namespace Go.Proofs.Ytnpkaemlidifgaa
open Go.Abs Go

theorem sideF_mem {x y : Int} : ∀ {l : List Int} {i : Nat}, y ∈ sideF x i l ↔ ∃ k, k < l.length ∧ y = ((i + k : Nat) : Int) ∧ el l k ≠ x
  | [], i => by simp [sideF]
  | n :: l, i => by
    have key : (∃ k, k < (n :: l).length ∧ y = ((i + k : Nat) : Int) ∧ el (n :: l) k ≠ x) ↔ (y = (i : Int) ∧ n ≠ x) ∨ ∃ k, k < l.length ∧ y = ((i + 1 + k : Nat) : Int) ∧ el l k ≠ x := by
      constructor
      · rintro ⟨k, h1, h2, h3⟩
        cases k with
        | zero => exact .inl ⟨by simpa using h2, by simpa [el] using h3⟩
        | succ k => exact .inr ⟨k, by simpa using h1, by rw [h2]; congr 1; omega, by simpa [el] using h3⟩
      · rintro (⟨h1, h2⟩ | ⟨k, h1, h2, h3⟩)
        · exact ⟨0, by simp, by simpa using h1, by simpa [el] using h2⟩
        · exact ⟨k + 1, by simpa using h1, by rw [h2]; congr 1; omega, by simpa [el] using h3⟩
    rw [key, sideF]
    split
    · rename_i h
      rw [List.mem_cons, sideF_mem]
      constructor
      · rintro (h1 | h1)
        · exact .inl ⟨h1, h⟩
        · exact .inr h1
      · rintro (⟨h1, _⟩ | h1)
        · exact .inl h1
        · exact .inr h1
    · rename_i h
      rw [sideF_mem]
      constructor
      · exact .inr
      · rintro (⟨_, h2⟩ | h1)
        · exact absurd h2 h
        · exact h1
theorem sideF_nodup (x : Int) : ∀ (l : List Int) (i : Nat), (sideF x i l).Nodup
  | [], i => List.nodup_nil
  | n :: l, i => by
    have ih := sideF_nodup x l (i + 1)
    rw [sideF]
    split
    · refine List.nodup_cons.2 ⟨fun h => ?_, ih⟩
      obtain ⟨k, _, h2, _⟩ := sideF_mem.1 h
      omega
    · exact ih
/-- Two different members and no others. -/
theorem two_of {l : List Int} (h : diffN l = 2) (h0 : 0 < l.length) : ∃ y, y ≠ el l 0 ∧ y ∈ l ∧ ∀ x ∈ l, x = el l 0 ∨ x = y := by
  obtain ⟨x, l', rfl⟩ : ∃ x l', l = x :: l' := by cases l with | nil => simp at h0 | cons x l' => exact ⟨x, l', rfl⟩
  have he : el (x :: l') 0 = x := rfl
  rw [he]
  by_cases hall : ∀ y ∈ l', y = x
  · have : diffN (x :: l') = 1 := diffN_of (m := [x]) (by simp) fun y => by
      rw [List.mem_singleton, List.mem_cons]
      exact ⟨.inl, fun h => h.elim id (hall y)⟩
    omega
  · simp only [Classical.not_forall] at hall
    obtain ⟨y, hy, hne⟩ := hall
    refine ⟨y, hne, by simp [hy], fun z hz => ?_⟩
    apply Classical.byContradiction
    intro hc
    rw [not_or] at hc
    have h3 : 3 ≤ diffN (x :: l') := by
      have := diffN_le (l := [x, y, z]) (m := x :: l') (by
        intro q hq
        simp only [List.mem_cons, List.not_mem_nil, or_false] at hq
        rcases hq with rfl | rfl | rfl
        · simp
        · simp [hy]
        · exact hz)
      have h4 : diffN [x, y, z] = 3 := diffN_of (m := [x, y, z]) (by simp [Ne.symm hne, Ne.symm hc.1, Ne.symm hc.2]) fun _ => Iff.rfl
      omega
    omega
theorem zip_mem {a b : List Int} (h : a.length = b.length) {x : Int × Int} : x ∈ a.zip b ↔ ∃ i, i < a.length ∧ x = (el a i, el b i) := by
  constructor
  · intro hx
    obtain ⟨i, hi, e⟩ := List.getElem_of_mem hx
    have hi' : i < a.length := by simp at hi; omega
    refine ⟨i, hi', ?_⟩
    rw [← e]
    simp [el, List.getD_eq_getElem?_getD, hi', show i < b.length by omega]
  · rintro ⟨i, hi, rfl⟩
    have : (a.zip b)[i]'(by simp; omega) = (el a i, el b i) := by
      simp [el, List.getD_eq_getElem?_getD, hi, show i < b.length by omega]
    rw [← this]
    exact List.getElem_mem _
/-- Two columns of two readings each have all four pairs exactly if their sides cross. -/
theorem four_iff {a b : List Int} (hab : a.length = b.length) (h0 : 0 < a.length) (ha : diffN a = 2) (hb : diffN b = 2) :
    diffN (a.zip b) = 4 ↔ (∃ i, i < a.length ∧ el a i ≠ el a 0 ∧ el b i ≠ el b 0) ∧ (∃ i, i < a.length ∧ el a i ≠ el a 0 ∧ el b i = el b 0) ∧ (∃ i, i < a.length ∧ el a i = el a 0 ∧ el b i ≠ el b 0) := by
  obtain ⟨y, hy1, hy2, hy3⟩ := two_of ha h0
  obtain ⟨z, hz1, hz2, hz3⟩ := two_of hb (by omega)
  have hva : ∀ i, i < a.length → el a i = el a 0 ∨ el a i = y := fun i hi => hy3 _ (el_mem_of a i hi)
  have hvb : ∀ i, i < a.length → el b i = el b 0 ∨ el b i = z := fun i hi => hz3 _ (el_mem_of b i (by omega))
  have hsub : ∀ x ∈ a.zip b, x ∈ [(el a 0, el b 0), (el a 0, z), (y, el b 0), (y, z)] := by
    intro x hx
    obtain ⟨i, hi, rfl⟩ := (zip_mem hab).1 hx
    rcases hva i hi with e1 | e1 <;> rcases hvb i hi with e2 | e2 <;> rw [e1, e2] <;> simp
  have hnd : [(el a 0, el b 0), (el a 0, z), (y, el b 0), (y, z)].Nodup := by simp [Ne.symm hy1, Ne.symm hz1]
  constructor
  · intro h4
    have hall : ∀ x ∈ [(el a 0, el b 0), (el a 0, z), (y, el b 0), (y, z)], x ∈ a.zip b := by
      intro x hx
      apply Classical.byContradiction
      intro hc
      have : diffN (a.zip b) ≤ 3 := by
        have h1 : diffN (a.zip b) ≤ diffN ([(el a 0, el b 0), (el a 0, z), (y, el b 0), (y, z)].erase x) := diffN_le fun q hq => (List.mem_erase_of_ne (fun e => hc (by rw [← e]; exact hq))).2 (hsub q hq)
        have h2 := diffN_len ([(el a 0, el b 0), (el a 0, z), (y, el b 0), (y, z)].erase x)
        rw [List.length_erase_of_mem hx] at h2
        simp only [List.length_cons, List.length_nil] at h2
        omega
      omega
    refine ⟨?_, ?_, ?_⟩
    · obtain ⟨i, hi, e⟩ := (zip_mem hab).1 (hall (y, z) (by simp))
      simp only [Prod.mk.injEq] at e
      exact ⟨i, hi, by rw [← e.1]; exact hy1, by rw [← e.2]; exact hz1⟩
    · obtain ⟨i, hi, e⟩ := (zip_mem hab).1 (hall (y, el b 0) (by simp))
      simp only [Prod.mk.injEq] at e
      exact ⟨i, hi, by rw [← e.1]; exact hy1, e.2.symm⟩
    · obtain ⟨i, hi, e⟩ := (zip_mem hab).1 (hall (el a 0, z) (by simp))
      simp only [Prod.mk.injEq] at e
      exact ⟨i, hi, e.1.symm, by rw [← e.2]; exact hz1⟩
  · rintro ⟨⟨i, hi, i1, i2⟩, ⟨j, hj, j1, j2⟩, ⟨k, hk, k1, k2⟩⟩
    refine diffN_of hnd fun x => ⟨fun hx => ?_, hsub x⟩
    have ei : el a i = y := (hva i hi).resolve_left i1
    have ei2 : el b i = z := (hvb i hi).resolve_left i2
    have ej : el a j = y := (hva j hj).resolve_left j1
    have ek : el b k = z := (hvb k hk).resolve_left k2
    simp only [List.mem_cons, List.not_mem_nil, or_false] at hx
    rw [zip_mem hab]
    rcases hx with rfl | rfl | rfl | rfl
    · exact ⟨0, h0, rfl⟩
    · exact ⟨k, hk, by rw [k1, ek]⟩
    · exact ⟨j, hj, by rw [ej, j2]⟩
    · exact ⟨i, hi, by rw [ei, ei2]⟩
end Go.Proofs.Ytnpkaemlidifgaa
end

section
/- Plain: the greatest set, by both ways. -/
namespace Go.Proofs.Ytnpkaemlidifgaa
open Go.Abs Go

/-- Longer, or as long and earlier. -/
def better (a b : List Int) : Bool := decide (b.length < a.length) || (decide (a.length = b.length) && bef a b)
theorem better_irr (a : List Int) : better a a = false := by simp [better, bef_irr]
theorem better_total {a b : List Int} (h : a ≠ b) : better a b = true ∨ better b a = true := by
  unfold better
  rcases Nat.lt_trichotomy a.length b.length with h1 | h1 | h1
  · right; simp [h1]
  · rcases bef_total h with h2 | h2
    · left; simp [h1, h2]
    · right; simp [h1, h2]
  · left; simp [h1]
theorem better_trans {a b c : List Int} (h : better a b = true) (k : better b c = true) : better a c = true := by
  unfold better at *
  simp only [Bool.or_eq_true, decide_eq_true_eq, Bool.and_eq_true] at *
  rcases h with h | ⟨h, h'⟩ <;> rcases k with k | ⟨k, k'⟩
  · left; omega
  · left; omega
  · left; omega
  · right; exact ⟨by omega, bef_trans h' k'⟩
/-- The best one of some. -/
def bestL : List Int → List (List Int) → List Int
  | b, [] => b
  | b, x :: l => bestL (if better x b then x else b) l
theorem bestL_spec : ∀ (l : List (List Int)) (b : List Int), (bestL b l = b ∨ bestL b l ∈ l) ∧ better b (bestL b l) = false ∧ ∀ x ∈ l, better x (bestL b l) = false
  | [], b => ⟨.inl rfl, better_irr b, fun x hx => by cases hx⟩
  | x :: l, b => by
    obtain ⟨h1, h2, h3⟩ := bestL_spec l (if better x b then x else b)
    rw [bestL]
    by_cases hx : better x b = true
    · rw [if_pos hx] at h1 h2 h3 ⊢
      refine ⟨?_, ?_, fun y hy => ?_⟩
      · rcases h1 with h1 | h1
        · exact .inr (by rw [h1]; simp)
        · exact .inr (List.mem_cons_of_mem _ h1)
      · cases hb : better b (bestL x l) with
        | false => rfl
        | true => rw [better_trans hx hb] at h2; cases h2
      · rcases List.mem_cons.1 hy with rfl | hy
        · exact h2
        · exact h3 y hy
    · rw [if_neg hx] at h1 h2 h3 ⊢
      refine ⟨?_, h2, fun y hy => ?_⟩
      · rcases h1 with h1 | h1
        · exact .inl h1
        · exact .inr (List.mem_cons_of_mem _ h1)
      · rcases List.mem_cons.1 hy with rfl | hy
        · cases hb : better y (bestL b l) with
          | false => rfl
          | true =>
            by_cases e : y = b
            · subst e; rw [h2] at hb; cases hb
            · rcases better_total e with e1 | e1
              · exact absurd e1 hx
              · rw [better_trans e1 hb] at h2; cases h2
        · exact h3 y hy
/-! ### the program's way -/
section
variable (t : List (List Int))
def splits (p : Nat) : Bool := decide (diffN (colM t p) = 2)
/-- A place that is taken: the list with it, and whether it is still good. -/
def takeP (p : Nat) (s : List Nat × Bool) : List Nat × Bool := (s.1 ++ [p], s.2 && splits t p && !s.1.any fun q => confM t p q)
def bitOn (bits p : Nat) : Bool := decide (bits / 2 ^ p % 2 = 1)
def takesF (bits : Nat) : Nat → Nat → List Nat × Bool → List Nat × Bool
  | _, 0, s => s
  | p, n + 1, s => takesF bits (p + 1) n (if bitOn bits p then takeP t p s else s)
def candM (w bits : Nat) : List Nat × Bool := takesF t bits 0 w ([], true)
/-- The good lists of a run of numbers. -/
def goodsF (w : Nat) : Nat → Nat → List (List Int)
  | _, 0 => []
  | b, n + 1 => if (candM t w b).2 then (candM t w b).1.map Int.ofNat :: goodsF w (b + 1) n else goodsF w (b + 1) n
def greatM : List Int := bestL [] (goodsF t (wid t) 0 (2 ^ wid t))
/-- Places that split, no two of which conflict, in order. -/
def calmL : List Nat → Bool
  | [] => true
  | p :: l => splits t p && (l.all fun q => !confM t q p) && calmL l
end
theorem takes_fst (t : List (List Int)) (bits : Nat) : ∀ (n p : Nat) (s : List Nat × Bool), (takesF t bits p n s).1 = s.1 ++ (List.range' p n).filter (bitOn bits)
  | 0, p, s => by simp [takesF]
  | n + 1, p, s => by
    rw [takesF, takes_fst t bits n, List.range'_succ, List.filter_cons]
    by_cases h : bitOn bits p = true
    · simp [h, takeP]
    · simp [h]
theorem calm_app (t : List (List Int)) : ∀ (l : List Nat) (p : Nat), calmL t (l ++ [p]) = (calmL t l && splits t p && !l.any fun q => confM t p q)
  | [], p => by simp [calmL]
  | x :: l, p => by
    simp only [List.cons_append, calmL, calm_app t l p, List.all_append, List.all_cons, List.all_nil, Bool.and_true, List.any_cons, Bool.not_or]
    cases splits t x <;> cases (l.all fun q => !confM t q x) <;> cases calmL t l <;> cases splits t p <;> cases confM t p x <;> cases (l.any fun q => confM t p q) <;> rfl
theorem takes_snd (t : List (List Int)) (bits : Nat) : ∀ (n p : Nat) (s : List Nat × Bool), s.2 = calmL t s.1 → (takesF t bits p n s).2 = calmL t (takesF t bits p n s).1
  | 0, p, s, h => h
  | n + 1, p, s, h => by
    rw [takesF]
    apply takes_snd t bits n
    split
    · simp only [takeP, calm_app, h]
    · exact h
theorem cand_spec (t : List (List Int)) (w bits : Nat) : (candM t w bits).1 = (List.range' 0 w).filter (bitOn bits) ∧ (candM t w bits).2 = calmL t (candM t w bits).1 :=
  ⟨by unfold candM; rw [takes_fst]; rfl, takes_snd t bits w 0 ([], true) rfl⟩
theorem mem_goods {t : List (List Int)} {w : Nat} {x : List Int} : ∀ {n b : Nat}, x ∈ goodsF t w b n ↔ ∃ k, b ≤ k ∧ k < b + n ∧ (candM t w k).2 = true ∧ x = (candM t w k).1.map Int.ofNat
  | 0, b => by simp [goodsF]; intro k h1 h2; omega
  | n + 1, b => by
    have ih := mem_goods (t := t) (w := w) (x := x) (n := n) (b := b + 1)
    have key : (∃ k, b ≤ k ∧ k < b + (n + 1) ∧ (candM t w k).2 = true ∧ x = (candM t w k).1.map Int.ofNat) ↔ ((candM t w b).2 = true ∧ x = (candM t w b).1.map Int.ofNat) ∨ ∃ k, b + 1 ≤ k ∧ k < b + 1 + n ∧ (candM t w k).2 = true ∧ x = (candM t w k).1.map Int.ofNat := by
      constructor
      · rintro ⟨k, h1, h2, h3, h4⟩
        by_cases e : k = b
        · subst e; exact .inl ⟨h3, h4⟩
        · exact .inr ⟨k, by omega, by omega, h3, h4⟩
      · rintro (⟨h3, h4⟩ | ⟨k, h1, h2, h3, h4⟩)
        · exact ⟨b, Nat.le_refl b, by omega, h3, h4⟩
        · exact ⟨k, by omega, by omega, h3, h4⟩
    rw [key, goodsF]
    split
    · rename_i h
      rw [List.mem_cons, ih]
      simp [h]
    · rename_i h
      rw [ih]
      simp [h]
/-- There is a number with any bits. -/
theorem bits_any (f : Nat → Bool) : ∀ w : Nat, ∃ b, b < 2 ^ w ∧ ∀ p, p < w → bitOn b p = f p
  | 0 => ⟨0, by simp, fun p hp => by omega⟩
  | w + 1 => by
    obtain ⟨b, h1, h2⟩ := bits_any f w
    cases hf : f w with
    | false =>
      refine ⟨b, by rw [Nat.pow_succ]; omega, fun p hp => ?_⟩
      by_cases e : p = w
      · subst e
        rw [hf]
        simp [bitOn, Nat.div_eq_of_lt h1]
      · exact h2 p (by omega)
    | true =>
      refine ⟨b + 2 ^ w, by rw [Nat.pow_succ]; omega, fun p hp => ?_⟩
      by_cases e : p = w
      · subst e
        rw [hf]
        have : (b + 2 ^ p) / 2 ^ p = 1 := by
          rw [Nat.add_div_right _ (Nat.pow_pos (by omega)), Nat.div_eq_of_lt h1]
        simp [bitOn, this]
      · rw [← h2 p (by omega)]
        obtain ⟨d, hd⟩ : ∃ d, w = p + 1 + d := ⟨w - (p + 1), by omega⟩
        have e2 : 2 ^ w = 2 ^ p * (2 * 2 ^ d) := by rw [hd, Nat.pow_add, Nat.pow_succ, Nat.mul_assoc]
        have e3 : (b + 2 ^ w) / 2 ^ p = b / 2 ^ p + 2 * 2 ^ d := by rw [e2, Nat.add_mul_div_left _ _ (Nat.pow_pos (by omega))]
        unfold bitOn
        rw [e3]
        congr 1
        simp
theorem filter_sub {w : Nat} {l : List Nat} (hs : l.Pairwise (· < ·)) (hw : ∀ p ∈ l, p < w) : (List.range' 0 w).filter (fun p => decide (p ∈ l)) = l := by
  have h1 : ((List.range' 0 w).filter fun p => decide (p ∈ l)).Pairwise (· < ·) := List.Pairwise.filter _ List.pairwise_lt_range'
  refine List.Perm.eq_of_pairwise (le := (· < ·)) (fun a b _ _ h2 h3 => by omega) h1 hs ?_
  refine (List.perm_ext_iff_of_nodup (h1.imp Nat.ne_of_lt) (hs.imp Nat.ne_of_lt)).2 fun a => ?_
  simp only [List.mem_filter, List.mem_range'_1, decide_eq_true_eq]
  constructor
  · exact fun h => h.2
  · exact fun h => ⟨⟨Nat.zero_le _, by have := hw a h; omega⟩, h⟩
theorem goods_iff {t : List (List Int)} {w : Nat} {x : List Int} : x ∈ goodsF t w 0 (2 ^ w) ↔ ∃ l : List Nat, x = l.map Int.ofNat ∧ l.Pairwise (· < ·) ∧ (∀ p ∈ l, p < w) ∧ calmL t l = true := by
  rw [mem_goods]
  constructor
  · rintro ⟨k, _, _, h3, h4⟩
    obtain ⟨c1, c2⟩ := cand_spec t w k
    refine ⟨_, h4, ?_, fun p hp => ?_, by rw [← c2]; exact h3⟩
    · rw [c1]; exact List.Pairwise.filter _ List.pairwise_lt_range'
    · rw [c1, List.mem_filter, List.mem_range'_1] at hp
      omega
  · rintro ⟨l, rfl, h1, h2, h3⟩
    obtain ⟨b, hb, hb2⟩ := bits_any (fun p => decide (p ∈ l)) w
    obtain ⟨c1, c2⟩ := cand_spec t w b
    have e : (candM t w b).1 = l := by
      rw [c1, ← filter_sub h1 h2]
      refine List.filter_congr fun p hp => ?_
      rw [List.mem_range'_1] at hp
      rw [hb2 p (by omega)]
    exact ⟨b, Nat.zero_le _, by omega, by rw [c2, e]; exact h3, by rw [e]⟩
/-! ### the document's way -/
section
variable (t : List (List Int))
/-- The sets that get a place more, from the last one on. -/
def moreF (p : Nat) : List (List Int) → List (List Int)
  | [] => []
  | s :: l => if s.all (fun q => !confM t q.toNat p) then (s ++ [(p : Int)]) :: moreF p l else moreF p l
end
theorem mem_more {t : List (List Int)} {p : Nat} {x : List Int} : ∀ {l : List (List Int)}, x ∈ moreF t p l ↔ ∃ s ∈ l, (s.all fun q => !confM t q.toNat p) = true ∧ x = s ++ [(p : Int)]
  | [] => by simp [moreF]
  | s :: l => by
    rw [moreF]
    split
    · rename_i h
      rw [List.mem_cons, mem_more]
      simp only [List.mem_cons, exists_eq_or_imp]
      constructor
      · rintro (h1 | h1)
        · exact .inl ⟨h, h1⟩
        · exact .inr h1
      · rintro (⟨_, h1⟩ | h1)
        · exact .inl h1
        · exact .inr h1
    · rename_i h
      rw [mem_more]
      simp only [List.mem_cons, exists_eq_or_imp]
      constructor
      · exact .inr
      · rintro (⟨h1, _⟩ | h1)
        · exact absurd h1 h
        · exact h1
theorem confM_comm (t : List (List Int)) (p q : Nat) : confM t p q = confM t q p := by
  have : diffN ((colM t p).zip (colM t q)) = diffN ((colM t q).zip (colM t p)) := by
    have h : ∀ a b : List Int, a.length = b.length → diffN (a.zip b) ≤ diffN (b.zip a) := by
      intro a b hab
      have h1 : ((freshL [] (a.zip b)).map Prod.swap).Nodup := by
        have h0 : (freshL [] (a.zip b)).Pairwise (· ≠ ·) := nodup_freshL
        exact List.pairwise_map.2 (h0.imp fun h e => h (by rw [Prod.ext_iff] at e ⊢; exact ⟨e.2, e.1⟩))
      have h2 : ∀ x ∈ (freshL [] (a.zip b)).map Prod.swap, x ∈ freshL [] (b.zip a) := by
        intro x hx
        obtain ⟨y, hy, rfl⟩ := List.mem_map.1 hx
        rw [mem_freshL] at hy ⊢
        obtain ⟨i, hi, rfl⟩ := (zip_mem hab).1 hy.1
        exact ⟨(zip_mem hab.symm).2 ⟨i, by omega, rfl⟩, by simp⟩
      have := nodup_le h1 h2
      simpa [diffN] using this
    exact Nat.le_antisymm (h _ _ (by simp [colM_len])) (h _ _ (by simp [colM_len]))
  unfold confM
  rw [this]
  cases decide (diffN (colM t p) = 2) <;> cases decide (diffN (colM t q) = 2) <;> rfl
end Go.Proofs.Ytnpkaemlidifgaa
end

section
/- Plain: a tree out of sides of which no two cross, and that each place that splits changes once on it. -/
namespace Go.Proofs.Ytnpkaemlidifgaa
open Go.Abs Go

/-- The copies of a list are put to a node. -/
def putAll (k : Int) : List Int → List Int → List Int
  | a, [] => a
  | a, i :: l => putAll k (a.set i.toNat k) l
theorem putAll_len (k : Int) : ∀ (l a : List Int), (putAll k a l).length = a.length
  | [], a => rfl
  | i :: l, a => by rw [putAll, putAll_len k l]; simp
theorem putAll_el (k : Int) : ∀ (l a : List Int) (i : Nat), (∀ x ∈ l, 0 ≤ x ∧ x.toNat < a.length) → el (putAll k a l) i = if (i : Int) ∈ l then k else el a i
  | [], a, i, _ => by simp [putAll]
  | x :: l, a, i, h => by
    have hx := h x (by simp)
    rw [putAll, putAll_el k l _ i (fun y hy => by have := h y (by simp [hy]); simpa using this), el_put _ _ _ _ hx.2]
    by_cases h1 : (i : Int) ∈ l
    · simp [h1]
    · by_cases h2 : x.toNat = i
      · have : (i : Int) = x := by omega
        simp [this, h2]
      · have : ¬ (i : Int) = x := by omega
        simp [h1, h2, this]
/-- The tree: the parents, and where the copies are. -/
def buildF : Nat → List (List Int) → List Int × List Int → List Int × List Int
  | _, [], s => s
  | k, l :: L, s => buildF (k + 1) L (s.1 ++ [el s.2 (el l 0).toNat], putAll ((k : Int) + 1) s.2 l)
def buildM (n : Nat) (L : List (List Int)) : List Int × List Int := buildF 0 L ([-1], List.replicate n 0)
/-- The last one of the first k lists that has a copy, counted from 1 on; 0 if none has it. -/
def lastK (L : List (List Int)) : Nat → Int → Nat
  | 0, _ => 0
  | k + 1, x => if x ∈ el L k then k + 1 else lastK L k x
theorem lastK_le (L : List (List Int)) (x : Int) : ∀ k, lastK L k x ≤ k
  | 0 => Nat.le_refl 0
  | k + 1 => by
    have := lastK_le L x k
    rw [lastK]
    split <;> omega
theorem lastK_in (L : List (List Int)) (x : Int) : ∀ k j, lastK L k x = j + 1 → x ∈ el L j ∧ j < k ∧ ∀ i, j < i → i < k → x ∉ el L i
  | 0, j, h => by simp [lastK] at h
  | k + 1, j, h => by
    rw [lastK] at h
    split at h
    · rename_i h1
      have : j = k := by omega
      subst this
      exact ⟨h1, by omega, fun i h2 h3 => by omega⟩
    · rename_i h1
      obtain ⟨a, b, c⟩ := lastK_in L x k j h
      refine ⟨a, by omega, fun i h2 h3 => ?_⟩
      by_cases e : i = k
      · rw [e]; exact h1
      · exact c i h2 (by omega)
theorem lastK_zero (L : List (List Int)) (x : Int) : ∀ k, lastK L k x = 0 → ∀ i, i < k → x ∉ el L i
  | 0, _, i, hi => by omega
  | k + 1, h, i, hi => by
    rw [lastK] at h
    split at h
    · omega
    · rename_i h1
      by_cases e : i = k
      · rw [e]; exact h1
      · exact lastK_zero L x k h i (by omega)
/-- Lists of copies, none empty; of two the later one is within the earlier one and not it, or they have nothing in common. -/
structure Nest (n : Nat) (L : List (List Int)) : Prop where
  pos : ∀ l ∈ L, 0 < l.length
  inn : ∀ l ∈ L, ∀ x ∈ l, 0 ≤ x ∧ x.toNat < n
  two : ∀ j k, j < k → k < L.length → (∀ x ∈ el L j, x ∉ el L k) ∨ ((∀ x ∈ el L k, x ∈ el L j) ∧ ∃ x ∈ el L j, x ∉ el L k)
theorem build_spec {n : Nat} {L : List (List Int)} (h : Nest n L) : ∀ (m k : Nat) (s : List Int × List Int), k + m = L.length → s.1.length = k + 1 → s.2.length = n → el s.1 0 = -1 →
    (∀ j, j < k → el s.1 (j + 1) = lastK L j (el (el L j) 0)) → (∀ i, i < n → el s.2 i = lastK L k i) →
    (buildF k (L.drop k) s).1.length = L.length + 1 ∧ (buildF k (L.drop k) s).2.length = n ∧ el (buildF k (L.drop k) s).1 0 = -1 ∧
    (∀ j, j < L.length → el (buildF k (L.drop k) s).1 (j + 1) = lastK L j (el (el L j) 0)) ∧ ∀ i, i < n → el (buildF k (L.drop k) s).2 i = lastK L L.length i
  | 0, k, s, hk, h1, h2, h3, h4, h5 => by
    rw [List.drop_eq_nil_of_le (by omega)]
    have : k = L.length := by omega
    subst this
    exact ⟨h1, h2, h3, h4, h5⟩
  | m + 1, k, s, hk, h1, h2, h3, h4, h5 => by
    have hkl : k < L.length := by omega
    have hin := el_mem_of L k hkl
    have hp := h.pos _ hin
    have hx0 := h.inn _ hin _ (el_mem_of _ 0 hp)
    rw [drop_cons L k hkl, buildF]
    refine build_spec h m (k + 1) _ (by omega) (by simp [h1]) (by rw [putAll_len]; exact h2) ?_ (fun j hj => ?_) (fun i hi => ?_)
    · dsimp only
      rw [el_app_lt _ _ _ (by omega)]; exact h3
    · dsimp only
      by_cases e : j = k
      · subst e
        have : el (s.1 ++ [el s.2 (el (el L j) 0).toNat]) (j + 1) = el s.2 (el (el L j) 0).toNat := by rw [← h1]; exact el_app_len _ _
        rw [this, h5 _ hx0.2]
        congr 2
        omega
      · rw [el_app_lt _ _ _ (by omega)]
        exact h4 j (by omega)
    · dsimp only
      rw [putAll_el _ _ _ _ (fun x hx => by rw [h2]; exact h.inn _ hin x hx), lastK]
      split
      · simp
      · exact h5 i hi
theorem buildM_spec {n : Nat} {L : List (List Int)} (h : Nest n L) : (buildM n L).1.length = L.length + 1 ∧ (buildM n L).2.length = n ∧ el (buildM n L).1 0 = -1 ∧
    (∀ j, j < L.length → el (buildM n L).1 (j + 1) = lastK L j (el (el L j) 0)) ∧ ∀ i, i < n → el (buildM n L).2 i = lastK L L.length i := by
  have := build_spec h L.length 0 ([-1], List.replicate n 0) (by omega) rfl (by simp) rfl (fun j hj => by omega) (fun i hi => by simp [lastK, el, List.getD_eq_getElem?_getD, List.getElem?_replicate, hi])
  rw [List.drop_zero] at this
  exact this
theorem parBad_of : ∀ (l : List Int) (i : Nat), (∀ k, k < l.length → 0 < i + k → 0 ≤ el l k ∧ el l k ≤ ((i + k : Nat) : Int) - 1) → parBad i l = false
  | [], i, _ => rfl
  | p :: l, i, h => by
    rw [parBad, parBad_of l (i + 1) (fun k hk h0 => by
      have := h (k + 1) (by simpa using hk) (by omega)
      rw [show i + (k + 1) = i + 1 + k by omega] at this
      exact this)]
    by_cases h0 : 0 < i
    · have := h 0 (by simp) h0
      simp only [el, List.getD_eq_getElem?_getD] at this
      simp at this
      simp [this]
    · simp [h0]
theorem build_tree {n : Nat} {L : List (List Int)} (h : Nest n L) (hL : L.length ≤ 15) (hn : n ≤ 6) : treeErr (buildM n L).1 (buildM n L).2 = 0 := by
  obtain ⟨b1, b2, b3, b4, b5⟩ := buildM_spec h
  unfold treeErr
  rw [if_neg (by omega), if_neg (by omega), if_neg (by simp [b3]), if_neg, if_neg]
  · simp only [Bool.not_eq_true, List.any_eq_false]
    intro x hx
    obtain ⟨i, hi, rfl⟩ := List.getElem_of_mem hx
    have e := b5 i (by omega)
    have h1 : el (buildM n L).2 i = (buildM n L).2[i] := by simp [el, List.getD_eq_getElem?_getD, hi]
    rw [← h1, e]
    have := lastK_le L i L.length
    simp
    omega
  · rw [parBad_of]
    · simp
    · intro k hk h0
      obtain ⟨j, rfl⟩ : ∃ j, k = j + 1 := ⟨k - 1, by omega⟩
      rw [b4 j (by omega)]
      have := lastK_le L (el (el L j) 0) j
      omega
/-! ### one change -/
section
variable {n : Nat} {L : List (List Int)} (h : Nest n L) {m : Nat} (hm : m < L.length) (a0 y : Int)
/-- The readings: within the side another one. -/
def rdS (L : List (List Int)) (m : Nat) (a0 y : Int) : Nat → Int
  | 0 => a0
  | k + 1 => if ∀ x ∈ el L k, x ∈ el L m then y else a0
include h
theorem sub_after {k : Nat} (hk : k < L.length) {x : Int} (hx : x ∈ el L k) (hx2 : x ∈ el L m) (hmk : m ≤ k) : ∀ z ∈ el L k, z ∈ el L m := by
  by_cases e : m = k
  · subst e; exact fun z hz => hz
  · rcases h.two m k (by omega) hk with h1 | h1
    · exact absurd hx (h1 x hx2)
    · exact h1.1
include hm
theorem not_before {k : Nat} (hk : k < m) {x : Int} (hx : x ∈ el L k) (hx2 : x ∈ el L m) : ¬ ∀ z ∈ el L k, z ∈ el L m := by
  intro hc
  rcases h.two k m hk hm with h1 | ⟨_, z, z1, z2⟩
  · exact h1 x hx hx2
  · exact z2 (hc z z1)
theorem rd_copy {i : Nat} (hi : i < n) : rdS L m a0 y (lastK L L.length i) = if (i : Int) ∈ el L m then y else a0 := by
  cases hl : lastK L L.length i with
  | zero =>
    have := lastK_zero L i L.length hl m hm
    rw [if_neg this]; rfl
  | succ k =>
    obtain ⟨k1, k2, k3⟩ := lastK_in L i L.length k hl
    simp only [rdS]
    by_cases hin : (i : Int) ∈ el L m
    · have hmk : m ≤ k := by
        apply Classical.byContradiction
        intro hc
        exact k3 m (by omega) hm hin
      rw [if_pos hin, if_pos (sub_after h k2 k1 hin hmk)]
    · rw [if_neg hin, if_neg (fun hc => hin (hc _ k1))]
theorem rd_step (hy : y ≠ a0) {k : Nat} (hk : k < L.length) : dd (rdS L m a0 y (k + 1)) (rdS L m a0 y (lastK L k (el (el L k) 0))) = if k = m then 1 else 0 := by
  have hin := el_mem_of L k hk
  have hx := el_mem_of (el L k) 0 (h.pos _ hin)
  generalize el (el L k) 0 = x at hx
  have e1 : rdS L m a0 y (k + 1) = if ∀ z ∈ el L k, z ∈ el L m then y else a0 := rfl
  by_cases e : k = m
  · subst e
    rw [e1, if_pos (fun z hz => hz), if_pos rfl]
    have : rdS L k a0 y (lastK L k x) = a0 := by
      cases hl : lastK L k x with
      | zero => rfl
      | succ j =>
        obtain ⟨j1, j2, j3⟩ := lastK_in L x k j hl
        simp only [rdS]
        rw [if_neg (not_before h hk j2 j1 hx)]
    rw [this]
    simp [dd, hy]
  · rw [if_neg e]
    have key : rdS L m a0 y (lastK L k x) = rdS L m a0 y (k + 1) := by
      rw [e1]
      by_cases hs : ∀ z ∈ el L k, z ∈ el L m
      · rw [if_pos hs]
        have hxm := hs x hx
        have hmk : m < k := by
          apply Classical.byContradiction
          intro hc
          exact not_before h hm (by omega) hx hxm hs
        cases hl : lastK L k x with
        | zero => exact absurd hxm (lastK_zero L x k hl m hmk)
        | succ j =>
          obtain ⟨j1, j2, j3⟩ := lastK_in L x k j hl
          have hmj : m ≤ j := by
            apply Classical.byContradiction
            intro hc
            exact j3 m (by omega) hmk hxm
          simp only [rdS]
          rw [if_pos (sub_after h (by omega) j1 hxm hmj)]
      · rw [if_neg hs]
        cases hl : lastK L k x with
        | zero => rfl
        | succ j =>
          obtain ⟨j1, j2, j3⟩ := lastK_in L x k j hl
          simp only [rdS]
          rw [if_neg]
          intro hc
          rcases h.two j k j2 hk with h1 | ⟨h1, _⟩
          · exact h1 x j1 hx
          · exact hs fun z hz => hc z (h1 z hz)
    rw [key]
    simp [dd]
theorem chg_one (hy : y ≠ a0) : ∀ k, k ≤ L.length → chg (pf (buildM n L).1) (rdS L m a0 y) k = if m < k then 1 else 0
  | 0, _ => by simp [chg]
  | k + 1, hk => by
    obtain ⟨b1, b2, b3, b4, b5⟩ := buildM_spec h
    have ih := chg_one hy k (by omega)
    have e : pf (buildM n L).1 (k + 1) = lastK L k (el (el L k) 0) := by
      have := lastK_le L (el (el L k) 0) k
      unfold pf
      rw [b4 k (by omega)]
      omega
    rw [chg, ih, e, rd_step h hm a0 y hy (by omega)]
    by_cases h1 : k = m
    · rw [if_pos h1, if_neg (by omega), if_pos (by omega)]; rfl
    · rw [if_neg h1]
      by_cases h2 : m < k
      · rw [if_pos h2, if_pos (by omega)]; rfl
      · rw [if_neg h2, if_neg (by omega)]; rfl
end
/-- On the tree a place whose side is one of the lists has one change. -/
theorem build_one {t : List (List Int)} (ht : Rds t) {L : List (List Int)} (h : Nest t.length L) (hL : L.length ≤ 15) {p m : Nat} (hp : p < wid t) (h2 : diffN (colM t p) = 2) (hm : m < L.length)
    (hs : el L m = sideF (el (colM t p) 0) 0 (colM t p)) : fewN (buildM t.length L).1 (prs t (buildM t.length L).2 p) = 1 := by
  obtain ⟨b1, b2, b3, b4, b5⟩ := buildM_spec h
  have htr := treeErr_zero (build_tree h hL ht.num)
  have hok := treeOK_of ht htr b2 hp
  have hn := ht.pos
  obtain ⟨y, hy1, hy2, hy3⟩ := two_of h2 (by rw [colM_len]; omega)
  have hcol := ht.col hp
  have hlow : 1 ≤ fewN (buildM t.length L).1 (prs t (buildM t.length L).2 p) := by
    have hfs := few_same hok
    cases hb : bestR (buildM t.length L).1 (prs t (buildM t.length L).2 p) with
    | none => rw [hb] at hfs; simp only at hfs; omega
    | some o =>
      rw [hb] at hfs
      simp only at hfs
      unfold bestR at hb
      simp only [Option.map_eq_some_iff] at hb
      obtain ⟨own, hf, rfl⟩ := hb
      obtain ⟨q1, q2, q3⟩ := best_is hok hf
      have := diff_few hok q2
      rw [prs_snd b2, h2] at this
      omega
  have hup : fewN (buildM t.length L).1 (prs t (buildM t.length L).2 p) ≤ 1 := by
    have hrd : ∀ i, ok3 (rdS L m (el (colM t p) 0) y i) := by
      have ha := hcol _ (el_mem_of (colM t p) 0 (by rw [colM_len]; omega))
      have hyy := hcol _ hy2
      intro i
      cases i with
      | zero => simp only [rdS]; unfold ok3; omega
      | succ k =>
        simp only [rdS]
        unfold ok3
        split <;> omega
    have h3 := (few_is hok).2 _ hrd
    have hfit : fits (rdS L m (el (colM t p) 0) y) (prs t (buildM t.length L).2 p) := by
      intro x hx
      obtain ⟨i, hi, rfl⟩ := (zip_mem (by rw [b2, colM_len])).1 hx
      dsimp only
      have hi2 : i < t.length := by omega
      rw [b5 i hi2, Int.toNat_natCast, rd_copy h hm _ _ hi2, hs]
      by_cases hc : el (colM t p) i = el (colM t p) 0
      · rw [if_neg, hc]
        rw [sideF_mem]
        rintro ⟨k, k1, k2, k3⟩
        have : k = i := by omega
        subst this
        exact k3 hc
      · rw [if_pos (sideF_mem.2 ⟨i, by rw [colM_len]; exact hi2, by simp, hc⟩)]
        rcases hy3 _ (el_mem_of (colM t p) i (by rw [colM_len]; exact hi2)) with e | e
        · exact absurd e hc
        · exact e.symm
    rw [mis_zero hfit, show (buildM t.length L).1.length - 1 = L.length by omega, chg_one h hm _ _ hy1 L.length (Nat.le_refl _), if_pos hm] at h3
    omega
  omega
theorem sideF_sorted (x : Int) : ∀ (l : List Int) (i : Nat), (sideF x i l).Pairwise (· < ·)
  | [], i => List.Pairwise.nil
  | n :: l, i => by
    have ih := sideF_sorted x l (i + 1)
    rw [sideF]
    split
    · refine List.pairwise_cons.2 ⟨fun z hz => ?_, ih⟩
      obtain ⟨k, _, h2, _⟩ := sideF_mem.1 hz
      omega
    · exact ih
theorem asc_eq {l m : List Int} (hl : l.Pairwise (· < ·)) (hm : m.Pairwise (· < ·)) (h : ∀ x, x ∈ l ↔ x ∈ m) : l = m := by
  refine List.Perm.eq_of_pairwise (le := (· < ·)) (fun a b _ _ h2 h3 => by omega) hl hm ?_
  exact (List.perm_ext_iff_of_nodup (hl.imp fun h => by omega) (hm.imp fun h => by omega)).2 h
/-- Sides of which none cross, each once, the greater ones first, are nested. -/
theorem nest_of {t : List (List Int)} (ht : Rds t) {L : List (List Int)} (hs : L.Pairwise fun a b => better a b = true)
    (hL : ∀ l ∈ L, ∃ p, p < wid t ∧ diffN (colM t p) = 2 ∧ l = sideF (el (colM t p) 0) 0 (colM t p)) (hc : ∀ p q, p < wid t → q < wid t → p ≠ q → confM t p q = false) : Nest t.length L := by
  have hn := ht.pos
  have hmem : ∀ {p i : Nat}, ((i : Int) ∈ sideF (el (colM t p) 0) 0 (colM t p)) ↔ i < t.length ∧ el (colM t p) i ≠ el (colM t p) 0 := by
    intro p i
    rw [sideF_mem, colM_len]
    constructor
    · rintro ⟨k, h1, h2, h3⟩
      have : k = i := by omega
      subst this
      exact ⟨h1, h3⟩
    · rintro ⟨h1, h2⟩
      exact ⟨i, h1, by simp, h2⟩
  have hnat : ∀ {p : Nat} {x : Int}, x ∈ sideF (el (colM t p) 0) 0 (colM t p) → ∃ i : Nat, x = (i : Int) := by
    intro p x hx
    obtain ⟨k, _, h2, _⟩ := sideF_mem.1 hx
    exact ⟨_, h2⟩
  refine ⟨fun l hl => ?_, fun l hl x hx => ?_, fun j k hjk hk => ?_⟩
  · obtain ⟨p, hp, h2, rfl⟩ := hL l hl
    obtain ⟨y, y1, y2, y3⟩ := two_of h2 (by rw [colM_len]; omega)
    obtain ⟨i, hi, e⟩ := List.getElem_of_mem y2
    have e2 : el (colM t p) i = y := by rw [← e]; simp [el, List.getD_eq_getElem?_getD, hi]
    exact List.length_pos_of_mem (hmem.2 ⟨by rw [colM_len] at hi; exact hi, by rw [e2]; exact y1⟩)
  · obtain ⟨p, hp, h2, rfl⟩ := hL l hl
    obtain ⟨k, h1, h3, _⟩ := sideF_mem.1 hx
    rw [colM_len] at h1
    omega
  · have hb : better (el L j) (el L k) = true := by
      have hj : j < L.length := by omega
      have := List.pairwise_iff_getElem.1 hs j k hj hk hjk
      rw [← el_eq L j hj, ← el_eq L k hk] at this
      exact this
    obtain ⟨p, hp, hp2, ep⟩ := hL _ (el_mem_of L j (by omega))
    obtain ⟨q, hq, hq2, eq⟩ := hL _ (el_mem_of L k hk)
    have hne : el L j ≠ el L k := by
      intro e
      rw [e, better_irr] at hb
      cases hb
    have hpq : p ≠ q := by
      rintro rfl
      exact hne (by rw [ep, eq])
    have hlen : (el L k).length ≤ (el L j).length := by
      simp only [better, Bool.or_eq_true, decide_eq_true_eq, Bool.and_eq_true] at hb
      omega
    have hcf := hc p q hp hq hpq
    unfold confM at hcf
    rw [decide_eq_true hp2, decide_eq_true hq2] at hcf
    simp only [Bool.true_and, decide_eq_false_iff_not] at hcf
    rw [four_iff (by simp [colM_len]) (by rw [colM_len]; omega) hp2 hq2, colM_len] at hcf
    rw [ep, eq] at hne hlen ⊢
    by_cases h1 : ∃ i, i < t.length ∧ el (colM t p) i ≠ el (colM t p) 0 ∧ el (colM t q) i ≠ el (colM t q) 0
    · right
      have hsub : ∀ x ∈ sideF (el (colM t q) 0) 0 (colM t q), x ∈ sideF (el (colM t p) 0) 0 (colM t p) := by
        by_cases h3 : ∃ i, i < t.length ∧ el (colM t p) i = el (colM t p) 0 ∧ el (colM t q) i ≠ el (colM t q) 0
        · -- then the first one lies within the second one, and is as long
          have h2 : ¬ ∃ i, i < t.length ∧ el (colM t p) i ≠ el (colM t p) 0 ∧ el (colM t q) i = el (colM t q) 0 := fun h2 => hcf ⟨h1, h2, h3⟩
          exfalso
          have hs1 : ∀ x ∈ sideF (el (colM t p) 0) 0 (colM t p), x ∈ sideF (el (colM t q) 0) 0 (colM t q) := by
            intro x hx
            obtain ⟨i, rfl⟩ := hnat hx
            obtain ⟨x1, x2⟩ := hmem.1 hx
            refine hmem.2 ⟨x1, fun e => h2 ⟨i, x1, x2, e⟩⟩
          obtain ⟨i, i1, i2, i3⟩ := h3
          have hl2 := nodup_le (l := (i : Int) :: sideF (el (colM t p) 0) 0 (colM t p)) (m := sideF (el (colM t q) 0) 0 (colM t q)) (List.nodup_cons.2 ⟨fun hx => (hmem.1 hx).2 i2, sideF_nodup _ _ _⟩) (by
            intro x hx
            rcases List.mem_cons.1 hx with rfl | hx
            · exact hmem.2 ⟨i1, i3⟩
            · exact hs1 x hx)
          simp only [List.length_cons] at hl2
          omega
        · intro x hx
          obtain ⟨i, rfl⟩ := hnat hx
          obtain ⟨x1, x2⟩ := hmem.1 hx
          exact hmem.2 ⟨x1, fun e => h3 ⟨i, x1, e, x2⟩⟩
      refine ⟨hsub, ?_⟩
      apply Classical.byContradiction
      intro hno
      refine hne (asc_eq (sideF_sorted _ _ _) (sideF_sorted _ _ _) fun x => ⟨fun hx => ?_, hsub x⟩)
      apply Classical.byContradiction
      intro hx2
      exact hno ⟨x, hx, hx2⟩
    · left
      intro x hx hx2
      obtain ⟨i, rfl⟩ := hnat hx
      exact h1 ⟨i, (hmem.1 hx).1, (hmem.1 hx).2, (hmem.1 hx2).2⟩
end Go.Proofs.Ytnpkaemlidifgaa
end

section
/- Plain: conflicts of readings that are written otherwise, or that have a place or a copy less. -/
namespace Go.Proofs.Ytnpkaemlidifgaa
open Go.Abs Go

theorem mem_confsF {t : List (List Int)} {p : Nat} {x : Nat × Nat} : ∀ {n q : Nat}, x ∈ confsF t p q n ↔ x.1 = p ∧ q ≤ x.2 ∧ x.2 < q + n ∧ confM t p x.2 = true
  | 0, q => by
    simp only [confsF, List.not_mem_nil, false_iff]
    rintro ⟨_, h1, h2, _⟩; omega
  | n + 1, q => by
    have ih := mem_confsF (t := t) (p := p) (x := x) (n := n) (q := q + 1)
    have key : (x.1 = p ∧ q ≤ x.2 ∧ x.2 < q + (n + 1) ∧ confM t p x.2 = true) ↔ (x = (p, q) ∧ confM t p q = true) ∨ (x.1 = p ∧ q + 1 ≤ x.2 ∧ x.2 < q + 1 + n ∧ confM t p x.2 = true) := by
      obtain ⟨a, b⟩ := x
      simp only [Prod.mk.injEq]
      constructor
      · rintro ⟨h1, h2, h3, h4⟩
        by_cases e : b = q
        · subst e; exact .inl ⟨⟨h1, rfl⟩, h4⟩
        · exact .inr ⟨h1, by omega, by omega, h4⟩
      · rintro (⟨⟨h1, rfl⟩, h4⟩ | ⟨h1, h2, h3, h4⟩)
        · exact ⟨h1, Nat.le_refl _, by omega, h4⟩
        · exact ⟨h1, by omega, by omega, h4⟩
    rw [key, confsF]
    split
    · rename_i h
      rw [List.mem_cons, ih]
      simp [h]
    · rename_i h
      rw [ih]
      simp [h]
theorem mem_confsG {t : List (List Int)} {w : Nat} {x : Nat × Nat} : ∀ {n p : Nat}, p + n = w → (x ∈ confsG t w p n ↔ p ≤ x.1 ∧ x.1 < x.2 ∧ x.2 < w ∧ confM t x.1 x.2 = true)
  | 0, p, h => by
    simp only [confsG, List.not_mem_nil, false_iff]
    rintro ⟨h1, h2, h3, _⟩; omega
  | n + 1, p, h => by
    have ih := mem_confsG (t := t) (w := w) (x := x) (n := n) (p := p + 1) (by omega)
    rw [confsG, List.mem_append, mem_confsF, ih]
    constructor
    · rintro (⟨h1, h2, h3, h4⟩ | ⟨h1, h2, h3, h4⟩)
      · exact ⟨by omega, by omega, by omega, by rw [h1]; exact h4⟩
      · exact ⟨by omega, h2, h3, h4⟩
    · rintro ⟨h1, h2, h3, h4⟩
      by_cases e : x.1 = p
      · exact .inl ⟨e, by omega, by omega, by rw [← e]; exact h4⟩
      · exact .inr ⟨by omega, h2, h3, h4⟩
theorem mem_confs {t : List (List Int)} {x : Nat × Nat} : x ∈ confsM t ↔ x.1 < x.2 ∧ x.2 < wid t ∧ confM t x.1 x.2 = true := by
  unfold confsM
  rw [mem_confsG (Nat.zero_add _)]
  simp
theorem confs_len (t : List (List Int)) (h : wid t ≤ 6) : (confsM t).length ≤ 36 := by
  have h1 : ∀ n q p : Nat, (confsF t p q n).length ≤ n := by
    intro n
    induction n with
    | zero => intro q p; simp [confsF]
    | succ n ih =>
      intro q p
      have := ih (q + 1) p
      rw [confsF]
      split
      · simp; omega
      · omega
  have h2 : ∀ n p : Nat, (confsG t (wid t) p n).length ≤ n * 6 := by
    intro n
    induction n with
    | zero => intro p; simp [confsG]
    | succ n ih =>
      intro p
      have a := ih (p + 1)
      have b := h1 (wid t - (p + 1)) (p + 1) p
      rw [confsG, List.length_append, Nat.succ_mul]
      omega
  have := h2 (wid t) 0
  unfold confsM
  omega
/-- Whether no places conflict. -/
theorem confs_nil {t : List (List Int)} : confsM t = [] ↔ ∀ p q, p < wid t → q < wid t → p ≠ q → confM t p q = false := by
  constructor
  · intro h p q hp hq hpq
    have key : ∀ p q, p < q → q < wid t → confM t p q = false := by
      intro p q h1 h2
      cases hc : confM t p q with
      | false => rfl
      | true =>
        have : (p, q) ∈ confsM t := mem_confs.2 ⟨h1, h2, hc⟩
        rw [h] at this; cases this
    rcases Nat.lt_or_gt_of_ne hpq with h1 | h1
    · exact key p q h1 hq
    · rw [confM_comm]; exact key q p h1 hp
  · intro h
    cases hc : confsM t with
    | nil => rfl
    | cons x l =>
      have hx : x ∈ confsM t := by rw [hc]; simp
      obtain ⟨h1, h2, h3⟩ := mem_confs.1 hx
      rw [h x.1 x.2 (by omega) h2 (by omega)] at h3
      cases h3
structure SpellOK (to : List Int) : Prop where
  len : to.length = 3
  rd : ∀ x ∈ to, 0 ≤ x ∧ x ≤ 2
  inj : ∀ i j, i < 3 → j < 3 → el to i = el to j → i = j
/-! ### a place less -/
def lessM (t : List (List Int)) (p : Nat) : List (List Int) := t.map fun r => r.eraseIdx p
theorem el_erase (r : List Int) (p q : Nat) : el (r.eraseIdx p) q = el r (if q < p then q else q + 1) := by
  unfold el
  rw [List.getD_eq_getElem?_getD, List.getD_eq_getElem?_getD, List.getElem?_eraseIdx]
  split <;> rfl
theorem less_len (t : List (List Int)) (p : Nat) : (lessM t p).length = t.length := by simp [lessM]
theorem less_wid {t : List (List Int)} (h : Rds t) {p : Nat} (hp : p < wid t) : wid (lessM t p) = wid t - 1 := by
  have := h.pos
  unfold wid lessM
  rw [el_map _ _ _ (by omega), List.length_eraseIdx, if_pos (by simpa [wid] using hp)]
theorem less_col (t : List (List Int)) (p q : Nat) : colM (lessM t p) q = colM t (if q < p then q else q + 1) := by
  unfold colM lessM
  rw [List.map_map]
  refine List.map_congr_left fun r _ => ?_
  simp only [Function.comp, el_erase]
theorem less_rds {t : List (List Int)} (h : Rds t) {p : Nat} (hp : p < wid t) : Rds (lessM t p) := by
  have h6 := h.w6
  refine ⟨by rw [less_len]; exact h.pos, by rw [less_len]; exact h.num, by rw [less_wid h hp]; omega, fun r hr => ?_, fun r hr x hx => ?_⟩
  · obtain ⟨r', hr', rfl⟩ := List.mem_map.1 hr
    rw [less_wid h hp, List.length_eraseIdx, h.rows r' hr', if_pos hp]
  · obtain ⟨r', hr', rfl⟩ := List.mem_map.1 hr
    exact h.rd r' hr' x (List.mem_of_mem_eraseIdx hx)
/-! ### all places together -/
def totF (t : List (List Int)) (par ats : List Int) : Nat → Nat → Option Int
  | _, 0 => some 0
  | p, n + 1 => match bestR par (prs t ats p) with
    | none => none
    | some o => (totF t par ats (p + 1) n).map fun s => chgM par o + s
def totM (t : List (List Int)) (par ats : List Int) : Option Int := totF t par ats 0 (wid t)
theorem best_fits {t : List (List Int)} {par ats : List Int} (ht : Rds t) (hx : Treed par ats) (hl : ats.length = t.length) {p : Nat} (hp : p < wid t) {o : List Int} (ho : bestR par (prs t ats p) = some o) :
    o.length = par.length ∧ (∀ i, i < par.length → ok3 (el o i)) ∧ fits (el o) (prs t ats p) ∧ (diffN (colM t p) : Int) ≤ 1 + chgM par o := by
  have hok := treeOK_of ht hx hl hp
  unfold bestR at ho
  simp only [Option.map_eq_some_iff] at ho
  obtain ⟨own, hf, rfl⟩ := ho
  obtain ⟨q1, q2, q3⟩ := best_is hok hf
  have := diff_few hok q2
  rw [prs_snd hl] at this
  exact ⟨readM_len par own, q1, q2, this⟩
def diffs (t : List (List Int)) : Nat → Nat → Int
  | _, 0 => 0
  | p, n + 1 => ((diffN (colM t p) : Int) - 1) + diffs t (p + 1) n
theorem tot_diffs {t : List (List Int)} {par ats : List Int} (ht : Rds t) (hx : Treed par ats) (hl : ats.length = t.length) :
    ∀ (n p : Nat) (s : Int), p + n ≤ wid t → totF t par ats p n = some s → diffs t p n ≤ s
  | 0, p, s, _, h => by simp [totF] at h; simp [diffs, h]
  | n + 1, p, s, hn, h => by
    rw [totF] at h
    cases hb : bestR par (prs t ats p) with
    | none => rw [hb] at h; cases h
    | some o =>
      rw [hb] at h
      simp only [Option.map_eq_some_iff] at h
      obtain ⟨s', hs, rfl⟩ := h
      have ih := tot_diffs ht hx hl n (p + 1) s' (by omega) hs
      obtain ⟨_, _, _, hd⟩ := best_fits ht hx hl (by omega) hb
      rw [diffs]
      omega
end Go.Proofs.Ytnpkaemlidifgaa
end

section
/- Functions of the cut as the value layer reads them. (written by gen.py) -/
set_option maxRecDepth 20000
namespace Go.Proofs.Ytnpkaemlidifgaa
open Go.Abs Go

def A95 : ACode :=
  (.seq (.reg [] [⟨some 2, (.assign (.const (.slice none 0 0))), 23, none⟩])
    (.seq (.seq (.reg [] [⟨some 3, (.move (.tmp 0)), 23, none⟩,
      ⟨some 4, (.binOp .eql 23 (.tmp 3) (.const (.slice none 0 0)) 23), 4, none⟩])
    (.cond (.tmp 4)
    (.seq (.reg [] [⟨some 2, (.assign (.const (.slice none 0 0))), 23, none⟩])
    .ret)
    .skip))
    (.seq (.reg [] [⟨some 5, (.buildSlice 23 0 #[]), 23, none⟩,
      ⟨some 6, (.move (.tmp 0)), 23, none⟩,
      ⟨some 7, (.call ⟨(.builtin .append), #[(.tmp 5), (.tmp 6)], #[23, 23]⟩), 23, none⟩,
      ⟨some 2, (.assign (.tmp 7)), 23, none⟩])
    .ret)))
theorem CO95 {args : List AV} {sz : Nat} {els : List AV} (hn : args.length ≤ 8) (h : vc Try.prog T [] A95 (FinO [(.tmp 2)] sz els) ⟨envOf 0 args, []⟩) : CallO Try.prog 95 args sz els :=
  callO_of tok mixed Try.func95 (by kernel_rfl) (by kernel_rfl) (by kernel_rfl : Try.f95.ntmps = 8) (by kernel_rfl : Try.f95.body.bind (strip 8 (fun _ => [])) = some A95) hn h

end Go.Proofs.Ytnpkaemlidifgaa
end

section
/- Contracts: leaves. -/
namespace Go.Proofs.Ytnpkaemlidifgaa
open Go.Abs Go

end Go.Proofs.Ytnpkaemlidifgaa
end

section
/- Contracts: grounds. -/
namespace Go.Proofs.Ytnpkaemlidifgaa
open Go.Abs Go

end Go.Proofs.Ytnpkaemlidifgaa
end

section
/- Contracts: the library's slices. -/
namespace Go.Proofs.Ytnpkaemlidifgaa
open Go.Abs Go
set_option maxRecDepth 20000
set_option maxHeartbeats 2000000
attribute [local irreducible] PreK CondK CallK CallG CallX LoopK

theorem clone_o (l : List Int) (hl : l.length ≤ 1000) : CallO Try.prog 95 [ints l] 1 (l.map iv) := by
  refine CO95 (by simp) ?_
  simp [A95, nilOK, nilArg, nilOf]
  intro b hb
  refine CondK.intro (fun h => ?_) (fun h => ?_)
  · simp at h
    have h2 := hb h
    simp at h2
    subst h2
    simp
  · simp
    refine PreK.intro (by omega) fun _ => ?_
    simp

end Go.Proofs.Ytnpkaemlidifgaa
end

section
/- Functions of the cut as the value layer reads them. (written by gen.py) -/
set_option maxRecDepth 20000
namespace Go.Proofs.Ytnpkaemlidifgaa
open Go.Abs Go

def A98 : ACode :=
  (.seq (.reg [] [⟨some 4, (.assign (.const (.int .i64 0))), 3, none⟩])
    (.seq (.seq (.reg [] [⟨some 6, (.move (.tmp 0)), 23, none⟩,
      ⟨some 7, (.call ⟨(.builtin .len), #[(.tmp 6)], #[23]⟩), 3, none⟩,
      ⟨some 8, (.move (.const (.int .i64 0))), 3, none⟩])
    (.block 0 (.loop (.seq (.reg [] [⟨some 9, (.binOp .lss 3 (.tmp 8) (.tmp 7) 3), 0, none⟩])
    (.seq (.cond (.tmp 9)
    .skip
    (.exit 0))
    (.seq (.block 1 (.seq (.reg [] [⟨some 10, (.move (.tmp 8)), 3, none⟩,
      ⟨some 5, (.assign (.tmp 10)), 3, none⟩])
    (.seq (.reg [] [⟨some 11, (.move (.tmp 1)), 80, none⟩,
      ⟨some 12, (.move (.tmp 0)), 23, none⟩,
      ⟨some 13, (.move (.tmp 5)), 3, none⟩,
      ⟨some 14, (.indexAddr 23 (.tmp 12) (.tmp 13)), 0, none⟩,
      ⟨some 15, (.load 3 (.tmp 14)), 3, none⟩,
      ⟨some 16, (.call ⟨(.value (.tmp 11)), #[(.tmp 15)], #[3]⟩), 4, none⟩])
    (.cond (.tmp 16)
    (.seq (.reg [] [⟨some 17, (.move (.tmp 5)), 3, none⟩,
      ⟨some 4, (.assign (.tmp 17)), 3, none⟩])
    .ret)
    .skip))))
    (.reg [] [⟨some 18, (.binOp .add 3 (.tmp 8) (.const (.int .i64 1)) 3), 3, none⟩,
      ⟨some 8, (.move (.tmp 18)), 3, none⟩])))))))
    (.seq (.reg [] [⟨some 4, (.assign (.const (.int .i64 (-1)))), 3, none⟩])
    .ret)))
theorem C98 {args : List AV} {r : AV} (hn : args.length ≤ 19) (h : vc Try.prog T [] A98 (Fin T [(.tmp 4)] r) ⟨envOf 0 args, []⟩) : CallP Try.prog 98 args r :=
  callP_of tok mixed Try.func98 (by kernel_rfl) (by kernel_rfl) (by kernel_rfl : Try.f98.ntmps = 19) (by kernel_rfl : Try.f98.body.bind (strip 19 (fun _ => [])) = some A98) hn h
def A69 : ACode :=
  (.seq (.reg [] [⟨some 4, (.assign (.const (.bool false))), 4, none⟩])
    (.seq (.reg [] [⟨some 5, (.move (.tmp 0)), 23, none⟩,
      ⟨some 6, (.move (.tmp 1)), 80, none⟩,
      ⟨some 7, (.call ⟨(.value (.func 98)), #[(.tmp 5), (.tmp 6)], #[23, 80]⟩), 3, none⟩,
      ⟨some 8, (.binOp .geq 3 (.tmp 7) (.const (.int .i64 0)) 3), 4, none⟩,
      ⟨some 4, (.assign (.tmp 8)), 4, none⟩])
    .ret))
theorem C69 {args : List AV} {r : AV} (hn : args.length ≤ 9) (h : vc Try.prog T [] A69 (Fin T [(.tmp 4)] r) ⟨envOf 0 args, []⟩) : CallP Try.prog 69 args r :=
  callP_of tok mixed Try.func69 (by kernel_rfl) (by kernel_rfl) (by kernel_rfl : Try.f69.ntmps = 9) (by kernel_rfl : Try.f69.body.bind (strip 9 (fun _ => [])) = some A69) hn h
def A82 : ACode :=
  (.seq (.reg [] [⟨some 4, (.assign (.const (.bool false))), 4, none⟩])
    (.seq (.seq (.reg [] [⟨some 6, (.move (.tmp 0)), 23, none⟩,
      ⟨some 7, (.call ⟨(.builtin .len), #[(.tmp 6)], #[23]⟩), 3, none⟩,
      ⟨some 8, (.move (.tmp 1)), 23, none⟩,
      ⟨some 9, (.call ⟨(.builtin .len), #[(.tmp 8)], #[23]⟩), 3, none⟩,
      ⟨some 10, (.binOp .neq 3 (.tmp 7) (.tmp 9) 3), 4, none⟩])
    (.cond (.tmp 10)
    (.seq (.reg [] [⟨some 4, (.assign (.const (.bool false))), 4, none⟩])
    .ret)
    .skip))
    (.seq (.seq (.reg [] [⟨some 11, (.move (.tmp 0)), 23, none⟩,
      ⟨some 12, (.call ⟨(.builtin .len), #[(.tmp 11)], #[23]⟩), 3, none⟩,
      ⟨some 13, (.move (.const (.int .i64 0))), 3, none⟩])
    (.block 0 (.loop (.seq (.reg [] [⟨some 14, (.binOp .lss 3 (.tmp 13) (.tmp 12) 3), 0, none⟩])
    (.seq (.cond (.tmp 14)
    .skip
    (.exit 0))
    (.seq (.block 1 (.seq (.reg [] [⟨some 15, (.move (.tmp 13)), 3, none⟩,
      ⟨some 5, (.assign (.tmp 15)), 3, none⟩])
    (.seq (.draw [] [⟨some 16, (.move (.tmp 0)), 23, none⟩,
      ⟨some 17, (.move (.tmp 5)), 3, none⟩,
      ⟨some 18, (.indexAddr 23 (.tmp 16) (.tmp 17)), 0, none⟩,
      ⟨some 19, (.load 3 (.tmp 18)), 3, none⟩,
      ⟨some 20, (.move (.tmp 1)), 23, none⟩,
      ⟨some 21, (.move (.tmp 5)), 3, none⟩,
      ⟨some 22, (.indexAddr 23 (.tmp 20) (.tmp 21)), 0, none⟩,
      ⟨some 23, (.load 3 (.tmp 22)), 3, none⟩,
      ⟨some 24, (.binOp .neq 3 (.tmp 19) (.tmp 23) 3), 4, none⟩] [(0, 1), (0, 4), (1, 4), (2, 4), (3, 4), (0, 5), (1, 5), (2, 5), (3, 5), (4, 5), (0, 6), (1, 6), (2, 6), (3, 6), (0, 7), (1, 7), (2, 7), (3, 7)])
    (.cond (.tmp 24)
    (.seq (.reg [] [⟨some 4, (.assign (.const (.bool false))), 4, none⟩])
    .ret)
    .skip))))
    (.reg [] [⟨some 25, (.binOp .add 3 (.tmp 13) (.const (.int .i64 1)) 3), 3, none⟩,
      ⟨some 13, (.move (.tmp 25)), 3, none⟩])))))))
    (.seq (.reg [] [⟨some 4, (.assign (.const (.bool true))), 4, none⟩])
    .ret))))
theorem C82 {args : List AV} {r : AV} (hn : args.length ≤ 26) (h : vc Try.prog T [] A82 (Fin T [(.tmp 4)] r) ⟨envOf 0 args, []⟩) : CallP Try.prog 82 args r :=
  callP_of tok mixed Try.func82 (by kernel_rfl) (by kernel_rfl) (by kernel_rfl : Try.f82.ntmps = 26) (by kernel_rfl : Try.f82.body.bind (strip 26 (fun _ => [])) = some A82) hn h

end Go.Proofs.Ytnpkaemlidifgaa
end

section
/- Contracts: leaves of package rule. -/
namespace Go.Proofs.Ytnpkaemlidifgaa
open Go.Abs Go

def long (r : Rule) : Int := if r.frm = -1 then 0 else 1
end Go.Proofs.Ytnpkaemlidifgaa
end

section
/- Contracts: the library's searches in []int. -/
namespace Go.Proofs.Ytnpkaemlidifgaa
open Go.Abs Go
set_option maxRecDepth 20000
set_option maxHeartbeats 2000000
attribute [local irreducible] PreK CondK CallK CallG CallX LoopK

def idxF (p : Int → Bool) : Nat → List Int → Int
  | _, [] => -1
  | k, x :: r => if p x then k else idxF p (k + 1) r
theorem idxF_any (p : Int → Bool) : ∀ (l : List Int) (k : Nat), decide (0 ≤ idxF p k l) = l.any p
  | [], k => by simp [idxF]
  | x :: r, k => by
    by_cases h : p x = true
    · simp [idxF, h]
    · simp [idxF, h, idxF_any p r (k + 1)]

theorem indexFunc_c (l : List Int) (hl : l.length ≤ big) (f : FuncId) (cap : List AV) (p : Int → Bool) (hp : ∀ x, CallP Try.prog f (iv x :: cap) (bv (p x))) (h1 : ∀ m, snapL m cap = cap) (h2 : AV.refsL cap = []) (h3 : ∀ m, snapOKL m cap) :
    CallP Try.prog 98 [ints l, .fn f [] cap] (iv (idxF p 0 l)) := by
  refine C98 (by simp) ?_
  generalize hR : idxF p 0 l = R
  simp [A98]
  refine LoopK.by (fun i : Nat => ⟨[(8, iv i), (7, iv l.length), (0, ints l), (1, .fn f [] cap)], []⟩) (fun i => l.length - i) (fun i => i ≤ l.length ∧ idxF p i (l.drop i) = R) 0 (by simpa using hR) (by simp [h2]) ?_
  intro i Q' ⟨hi, hc⟩ hq he hr
  simp
  refine CondK.intro (fun h => ?_) (fun h => ?_)
  · simp at h
    rw [drop_cons l i h] at hc
    simp [h]
    refine CallX.pure (by simpa [h1] using hp (el l i)) (by simp [h3]) (by simp) ?_
    simp
    refine CondK.intro (fun h4 => ?_) (fun h4 => ?_)
    · simp [idxF, h4] at hc
      simp
      apply hr
      simp [hc]
    · simp [idxF, h4] at hc
      simp
      refine PreK.intro (by simp only [big] at hl; omega) fun _ => ?_
      simp
      exact hq (i + 1) _ ⟨by omega, hc⟩ (by omega) (by simp [h2])
  · simp at h
    rw [List.drop_eq_nil_of_le (by omega)] at hc
    simp [idxF] at hc
    simp
    apply he
    simp [hc]

theorem containsFunc_c (l : List Int) (hl : l.length ≤ big) (f : FuncId) (cap : List AV) (p : Int → Bool) (hp : ∀ x, CallP Try.prog f (iv x :: cap) (bv (p x))) (h1 : ∀ m, snapL m cap = cap) (h2 : AV.refsL cap = []) (h3 : ∀ m, snapOKL m cap) :
    CallP Try.prog 69 [ints l, .fn f [] cap] (bv (l.any p)) := by
  refine C69 (by simp) ?_
  rw [← idxF_any p l 0]
  simp [A69]
  refine CallX.pure (by simpa [h1] using indexFunc_c l hl f cap p hp h1 h2 h3) (by simp [h3]) (by simp) ?_
  simp

end Go.Proofs.Ytnpkaemlidifgaa
end

section
/- Contracts: what readings and trees are right. -/
namespace Go.Proofs.Ytnpkaemlidifgaa
open Go.Abs Go
set_option maxRecDepth 20000
set_option maxHeartbeats 2000000
attribute [local irreducible] PreK CondK CallK CallG CallX LoopK
attribute [simp] T_22 T_25 T_24 T_50 T_84 T_92 T_96 T_100 T_102 T_101 T_39 T_38 T_80 T_86 T_108 T_89 T_46 T_93 T_106
attribute [local simp] avsEq avEq akind teq vkind vEq

@[simp] def rdsV (t : List (List Int)) : AV := .seq 1 (t.map ints) false
@[simp] def treeV (par ats : List Int) : AV := .agg [ints par, ints ats]
/-- Readings that are no longer than a statement takes. -/
structure Sm (t : List (List Int)) : Prop where
  num : t.length ≤ 1000
  row : ∀ r ∈ t, r.length ≤ 1000
theorem Sm.el {t : List (List Int)} (h : Sm t) (i : Nat) : (el t i).length ≤ 1000 := by
  by_cases hi : i < t.length
  · exact h.row _ (el_mem_of t i hi)
  · unfold Go.Abs.el
    rw [List.getD_eq_getElem?_getD, List.getElem?_eq_none (by omega)]; simp [default]
theorem sbig {n : Nat} (h : n ≤ 1000) : n ≤ big := Nat.le_trans h (by decide)
theorem swithin_c (n lo hi : Int) : CallP Try.prog 72 [iv n, iv lo, iv hi] (bv (decide (lo ≤ n) && decide (n ≤ hi))) := by
  refine C72 (by simp) ?_
  simp [A72]
theorem isReading_c (n : Int) : CallP Try.prog 71 [iv n] (bv (okR n)) := by
  refine C71 (by simp) ?_
  simp [A71]
  refine CallX.pure (by simpa using swithin_c n 0 2) (by simp) (by simp) ?_
  simp [okR]
theorem notReading_c (n : Int) : CallP Try.prog 76 [iv n] (bv (!okR n)) := by
  refine C76 (by simp) ?_
  simp [A76]
  refine CallX.pure (by simpa using isReading_c n) (by simp) (by simp) ?_
  simp
theorem notReading2_c (n : Int) : CallP Try.prog 70 [iv n] (bv (!okR n)) := by
  refine C70 (by simp) ?_
  simp [A70]
  refine CallX.pure (by simpa using isReading_c n) (by simp) (by simp) ?_
  simp
theorem Validate_c (t : List (List Int)) (h : Sm t) : CallP Try.prog 34 [rdsV t] (iv (vErr t)) := by
  refine C34 (by simp) ?_
  have hn := h.num
  have hw := swithin_c t.length 1 6
  generalize hR : vErr t = R
  unfold vErr at hR
  simp [A34]
  by_cases h0 : t.length = 0
  · rw [if_pos (.inl h0)] at hR
    rw [h0] at hw
    obtain rfl : t = [] := List.eq_nil_of_length_eq_zero h0
    try simp 
    repeat' (first
      | (refine CallX.pure (hw) (by simp) (by simp) ?_; try simp )
      | (refine CallK.intro (hw) (by simp) (by simp) ?_; try simp )
      | (refine CallG.intro (fun _ => hw) (by simp) (by simp) ?_; try simp )
      | ((with_reducible refine PreK.intro ?_ ?_); (next => (first | omega | (intros; first | omega | (refine ⟨by omega, ?_⟩; repeat (first | assumption | constructor)) | assumption))); intro _; try simp )
      | fail)
    refine CondK.tt ?_
    try simp 
    exact hR
  · have e3 : 0 < t.length := by omega
    by_cases h6 : 6 < t.length
    · rw [if_pos (.inr h6)] at hR
      have e1 : ¬ (t.length : Int) ≤ 6 := by omega
      simp only [e1, decide_false, Bool.and_false] at hw
      try simp [e1, e3]
      repeat' (first
        | (refine CallX.pure (hw) (by simp) (by simp) ?_; try simp [e1, e3])
        | (refine CallK.intro (hw) (by simp) (by simp) ?_; try simp [e1, e3])
        | (refine CallG.intro (fun _ => hw) (by simp) (by simp) ?_; try simp [e1, e3])
        | ((with_reducible refine PreK.intro ?_ ?_); (next => (first | omega | (intros; first | omega | (refine ⟨by omega, ?_⟩; repeat (first | assumption | constructor)) | assumption))); intro _; try simp [e1, e3])
        | fail)
      refine CondK.tt ?_
      try simp 
      exact hR
    · have e1 : (t.length : Int) ≤ 6 := by omega
      have e2 : (1 : Int) ≤ t.length := by omega
      rw [if_neg (by omega)] at hR
      simp only [e1, e2, decide_true, Bool.and_true] at hw
      try simp [e3]
      repeat' (first
        | (refine CallX.pure (hw) (by simp) (by simp) ?_; try simp [e3])
        | (refine CallK.intro (hw) (by simp) (by simp) ?_; try simp [e3])
        | (refine CallG.intro (fun _ => hw) (by simp) (by simp) ?_; try simp [e3])
        | ((with_reducible refine PreK.intro ?_ ?_); (next => (first | omega | (intros; first | omega | (refine ⟨by omega, ?_⟩; repeat (first | assumption | constructor)) | assumption))); intro _; try simp [e3])
        | fail)
      refine CondK.intro (fun h1 => ?_) (fun h1 => ?_)
      · simp at h1
        rw [if_pos (by omega)] at hR
        try simp 
        exact hR
      · simp at h1
        rw [if_neg (by omega)] at hR
        try simp 
        refine LoopK.by (fun i : Nat => ⟨[(18, iv i), (17, iv t.length), (16, rdsV t), (0, rdsV t)], []⟩) (fun i => t.length - i) (fun i => i ≤ t.length ∧ (if (t.drop i).any (rowBad (el t 0).length) = true then 1 else 0) = R) 0 (by simpa using hR) (by simp) ?_
        intro i Q' ⟨hi, hc⟩ hq he hr
        try simp 
        refine CondK.intro (fun h2 => ?_) (fun h2 => ?_)
        · simp at h2
          have hel := h.el i
          rw [drop_cons t i h2, List.any_cons] at hc
          have hcf := containsFunc_c (el t i) (sbig (by omega)) 76 [] (fun n => !okR n) notReading_c (by simp [snapL]) (by simp [AV.refsL]) (by simp [snapOKL])
          unfold rowBad at hc
          by_cases h3 : (el t i).length = (el t 0).length
          · simp only [h3, ne_eq, not_true_eq_false, decide_false, Bool.false_or] at hc
            try simp [h2, e3, h3]
            repeat' (first
              | (refine CallX.pure (hcf) (by simp) (by simp) ?_; try simp [h2, e3, h3])
              | (refine CallK.intro (hcf) (by simp) (by simp) ?_; try simp [h2, e3, h3])
              | (refine CallG.intro (fun _ => hcf) (by simp) (by simp) ?_; try simp [h2, e3, h3])
              | ((with_reducible refine PreK.intro ?_ ?_); (next => (first | omega | (intros; first | omega | (refine ⟨by omega, ?_⟩; repeat (first | assumption | constructor)) | assumption))); intro _; try simp [h2, e3, h3])
              | fail)
            refine CondK.intro (fun h4 => ?_) (fun h4 => ?_)
            · rw [h4] at hc
              simp only [Bool.true_or, if_true] at hc
              try simp 
              apply hr
              try simp 
              exact hc
            · rw [h4] at hc
              simp only [Bool.false_or] at hc
              repeat (refine PreK.intro (by first | omega | (intros; first | omega | (refine ⟨by omega, ?_⟩; simp_all; done) | (simp_all; done) | (simp_all; omega))) fun _ => ?_; (try simp ))
              exact hq (i + 1) _ ⟨by omega, hc⟩ (by omega) (by simp)
          · simp only [h3, ne_eq, not_false_eq_true, decide_true, Bool.true_or, if_true] at hc
            have h3' : ¬ ((el t i).length : Int) = (el t 0).length := by omega
            try simp [h2, e3, h3, h3']
            repeat' (first
              | (refine CallX.pure (hcf) (by simp) (by simp) ?_; try simp [h2, e3, h3, h3'])
              | (refine CallK.intro (hcf) (by simp) (by simp) ?_; try simp [h2, e3, h3, h3'])
              | (refine CallG.intro (fun _ => hcf) (by simp) (by simp) ?_; try simp [h2, e3, h3, h3'])
              | ((with_reducible refine PreK.intro ?_ ?_); (next => (first | omega | (intros; first | omega | (refine ⟨by omega, ?_⟩; repeat (first | assumption | constructor)) | assumption))); intro _; try simp [h2, e3, h3, h3'])
              | fail)
            refine CondK.tt ?_
            try simp 
            apply hr
            try simp 
            exact hc
        · simp at h2
          rw [List.drop_eq_nil_of_le (by omega)] at hc
          simp only [List.any_nil, Bool.false_eq_true, if_false] at hc
          try simp 
          apply he
          try simp 
          exact hc
end Go.Proofs.Ytnpkaemlidifgaa
end

section
/- Contracts: what trees are right, and the errors of places. -/
namespace Go.Proofs.Ytnpkaemlidifgaa
open Go.Abs Go
set_option maxRecDepth 20000
set_option maxHeartbeats 2000000
attribute [local irreducible] PreK CondK CallK CallG CallX LoopK
attribute [local simp] avsEq avEq akind teq vkind vEq

theorem treeIf {par ats : List Int} : treeErr par ats = if par.length = 0 ∨ 16 < par.length then 3 else if 6 < ats.length then 3 else if el par 0 ≠ -1 then 1 else if parBad 0 par then 1
  else if ats.any (fun n => !(decide (0 ≤ n) && decide (n ≤ (par.length : Int) - 1))) then 1 else 0 := rfl
def atBad (n : Nat) (x : Int) : Bool := !(decide (0 ≤ x) && decide (x ≤ (n : Int) - 1))
theorem ValidateTree_c (par ats : List Int) (hp : par.length ≤ 1000) (ha : ats.length ≤ 1000) : CallP Try.prog 27 [treeV par ats] (iv (treeErr par ats)) := by
  refine C27 (by simp) ?_
  have hw := swithin_c par.length 1 16
  generalize hR : treeErr par ats = R
  rw [treeIf] at hR
  simp [A27]
  by_cases h0 : par.length = 0
  · rw [if_pos (.inl h0)] at hR
    rw [h0] at hw
    obtain rfl : par = [] := List.eq_nil_of_length_eq_zero h0
    try simp 
    repeat' (first
      | (refine CallX.pure (hw) (by simp) (by simp) ?_; try simp )
      | (refine CallK.intro (hw) (by simp) (by simp) ?_; try simp )
      | (refine CallG.intro (fun _ => hw) (by simp) (by simp) ?_; try simp )
      | ((with_reducible refine PreK.intro ?_ ?_); (next => (first | omega | (intros; first | omega | (refine ⟨by omega, ?_⟩; repeat (first | assumption | constructor)) | assumption))); intro _; try simp )
      | fail)
    refine CondK.tt ?_
    try simp 
    exact hR
  · have e3 : 0 < par.length := by omega
    by_cases h6 : 16 < par.length
    · rw [if_pos (.inr h6)] at hR
      have e1 : ¬ (par.length : Int) ≤ 16 := by omega
      simp only [e1, decide_false, Bool.and_false] at hw
      try simp [e1, e3]
      repeat' (first
        | (refine CallX.pure (hw) (by simp) (by simp) ?_; try simp [e1, e3])
        | (refine CallK.intro (hw) (by simp) (by simp) ?_; try simp [e1, e3])
        | (refine CallG.intro (fun _ => hw) (by simp) (by simp) ?_; try simp [e1, e3])
        | ((with_reducible refine PreK.intro ?_ ?_); (next => (first | omega | (intros; first | omega | (refine ⟨by omega, ?_⟩; repeat (first | assumption | constructor)) | assumption))); intro _; try simp [e1, e3])
        | fail)
      refine CondK.tt ?_
      try simp 
      exact hR
    · have e1 : (par.length : Int) ≤ 16 := by omega
      have e2 : (1 : Int) ≤ par.length := by omega
      rw [if_neg (by omega)] at hR
      simp only [e1, e2, decide_true, Bool.and_true] at hw
      try simp [e3]
      repeat' (first
        | (refine CallX.pure (hw) (by simp) (by simp) ?_; try simp [e3])
        | (refine CallK.intro (hw) (by simp) (by simp) ?_; try simp [e3])
        | (refine CallG.intro (fun _ => hw) (by simp) (by simp) ?_; try simp [e3])
        | ((with_reducible refine PreK.intro ?_ ?_); (next => (first | omega | (intros; first | omega | (refine ⟨by omega, ?_⟩; repeat (first | assumption | constructor)) | assumption))); intro _; try simp [e3])
        | fail)
      refine CondK.intro (fun h1 => ?_) (fun h1 => ?_)
      · simp at h1
        rw [if_pos (by omega)] at hR
        try simp 
        exact hR
      · simp at h1
        rw [if_neg (by omega)] at hR
        try simp [e3]
        repeat' (first
          | ((with_reducible refine PreK.intro ?_ ?_); (next => (first | omega | (intros; first | omega | (refine ⟨by omega, ?_⟩; repeat (first | assumption | constructor)) | assumption))); intro _; try simp [e3])
          | fail)
        refine CondK.intro (fun h2 => ?_) (fun h2 => ?_)
        · simp at h2
          rw [if_pos h2] at hR
          try simp 
          exact hR
        · simp at h2
          rw [if_neg (by simpa using h2)] at hR
          try simp [e3]
          repeat' (first
            | ((with_reducible refine PreK.intro ?_ ?_); (next => (first | omega | (intros; first | omega | (refine ⟨by omega, ?_⟩; repeat (first | assumption | constructor)) | assumption))); intro _; try simp [e3])
            | fail)
          refine LoopK.by (fun i : Nat => ⟨[(26, iv i), (25, iv par.length), (24, ints par), (1, .pt 1 1 0 0)], [(1, some ⟨2, [treeV par ats], 1, true⟩)]⟩) (fun i => par.length - i) (fun i => i ≤ par.length ∧ (if parBad i (par.drop i) = true then 1 else if (ats.any (atBad par.length)) = true then 1 else 0) = R) 0 ⟨Nat.zero_le _, hR⟩ (by simp) ?_
          intro i Q' ⟨hi, hc⟩ hq he hr
          try simp 
          refine CondK.intro (fun h3 => ?_) (fun h3 => ?_)
          · simp at h3
            rw [drop_cons par i h3, parBad] at hc
            have hw2 := swithin_c (el par i) 0 ((i : Int) - 1)
            by_cases h4 : 0 < i
            · have h4' : (0 : Int) < i := by omega
              simp only [h4, decide_true, Bool.true_and] at hc
              try simp [h3, h4, h4']
              repeat' (first
                | (refine CallX.pure (hw2) (by simp) (by simp) ?_; try simp [h3, h4, h4'])
                | (refine CallK.intro (hw2) (by simp) (by simp) ?_; try simp [h3, h4, h4'])
                | (refine CallG.intro (fun _ => hw2) (by simp) (by simp) ?_; try simp [h3, h4, h4'])
                | ((with_reducible refine PreK.intro ?_ ?_); (next => (first | omega | (intros; first | omega | (refine ⟨by omega, ?_⟩; repeat (first | assumption | constructor)) | assumption))); intro _; try simp [h3, h4, h4'])
                | fail)
              refine CondK.intro (fun h5 => ?_) (fun h5 => ?_)
              · have e : (!(decide (0 ≤ el par i) && decide (el par i ≤ (i : Int) - 1))) = true := by simp at h5; simp; omega
                rw [e] at hc
                simp only [Bool.true_or, if_true] at hc
                try simp 
                apply hr
                try simp 
                exact hc
              · have e : (!(decide (0 ≤ el par i) && decide (el par i ≤ (i : Int) - 1))) = false := by simp at h5; simp; omega
                rw [e] at hc
                simp only [Bool.false_or] at hc
                repeat (refine PreK.intro (by first | omega | (intros; first | omega | (refine ⟨by omega, ?_⟩; simp_all; done) | (simp_all; done) | (simp_all; omega))) fun _ => ?_; (try simp ))
                exact hq (i + 1) _ ⟨by omega, hc⟩ (by omega) (by simp)
            · obtain rfl : i = 0 := by omega
              simp only [Nat.lt_irrefl, decide_false, Bool.false_and, Bool.false_or] at hc
              try simp [h3]
              repeat' (first
                | (refine CallX.pure (hw2) (by simp) (by simp) ?_; try simp [h3])
                | (refine CallK.intro (hw2) (by simp) (by simp) ?_; try simp [h3])
                | (refine CallG.intro (fun _ => hw2) (by simp) (by simp) ?_; try simp [h3])
                | ((with_reducible refine PreK.intro ?_ ?_); (next => (first | omega | (intros; first | omega | (refine ⟨by omega, ?_⟩; repeat (first | assumption | constructor)) | assumption))); intro _; try simp [h3])
                | fail)
              refine CondK.ff ?_
              try simp 
              repeat (refine PreK.intro (by first | omega | (intros; first | omega | (refine ⟨by omega, ?_⟩; simp_all; done) | (simp_all; done) | (simp_all; omega))) fun _ => ?_; (try simp ))
              exact hq (0 + 1) _ ⟨by omega, hc⟩ (by omega) (by simp)
          · simp at h3
            rw [List.drop_eq_nil_of_le (by omega)] at hc
            simp only [parBad, Bool.false_eq_true, if_false] at hc
            try simp 
            apply he
            try simp 
            repeat' (first
              | ((with_reducible refine PreK.intro ?_ ?_); (next => (first | omega | (intros; first | omega | (refine ⟨by omega, ?_⟩; repeat (first | assumption | constructor)) | assumption))); intro _; try simp )
              | fail)
            refine LoopK.by (fun i : Nat => ⟨[(44, iv i), (43, iv ats.length), (42, ints ats), (1, .pt 1 1 0 0)], [(1, some ⟨2, [treeV par ats], 1, true⟩)]⟩) (fun i => ats.length - i) (fun i => i ≤ ats.length ∧ (if ((ats.drop i).any (atBad par.length)) = true then 1 else 0) = R) 0 ⟨Nat.zero_le _, hc⟩ (by simp) ?_
            clear hq he hr hc hi h3
            intro i Q2 ⟨hi, hc⟩ hq he hr
            try simp 
            refine CondK.intro (fun h3 => ?_) (fun h3 => ?_)
            · simp at h3
              rw [drop_cons ats i h3, List.any_cons] at hc
              have hw2 := swithin_c (el ats i) 0 ((par.length : Int) - 1)
              try simp [h3]
              repeat' (first
                | (refine CallX.pure (hw2) (by simp) (by simp) ?_; try simp [h3])
                | (refine CallK.intro (hw2) (by simp) (by simp) ?_; try simp [h3])
                | (refine CallG.intro (fun _ => hw2) (by simp) (by simp) ?_; try simp [h3])
                | ((with_reducible refine PreK.intro ?_ ?_); (next => (first | omega | (intros; first | omega | (refine ⟨by omega, ?_⟩; repeat (first | assumption | constructor)) | assumption))); intro _; try simp [h3])
                | fail)
              refine CondK.intro (fun h5 => ?_) (fun h5 => ?_)
              · have e : atBad par.length (el ats i) = true := by simp at h5; simp [atBad]; omega
                rw [e] at hc
                simp only [Bool.true_or, if_true] at hc
                try simp 
                apply hr
                try simp 
                exact hc
              · have e : atBad par.length (el ats i) = false := by simp at h5; simp [atBad]; omega
                rw [e] at hc
                simp only [Bool.false_or] at hc
                repeat (refine PreK.intro (by first | omega | (intros; first | omega | (refine ⟨by omega, ?_⟩; simp_all; done) | (simp_all; done) | (simp_all; omega))) fun _ => ?_; (try simp ))
                exact hq (i + 1) _ ⟨by omega, hc⟩ (by omega) (by simp)
            · simp at h3
              rw [List.drop_eq_nil_of_le (by omega)] at hc
              simp only [List.any_nil, Bool.false_eq_true, if_false] at hc
              try simp 
              apply he
              try simp 
              exact hc
end Go.Proofs.Ytnpkaemlidifgaa
end

section
/- Contracts: the errors of places and trees; a column; how many different readings. -/
namespace Go.Proofs.Ytnpkaemlidifgaa
open Go.Abs Go
set_option maxRecDepth 20000
set_option maxHeartbeats 2000000
attribute [local irreducible] PreK CondK CallK CallG CallX LoopK
attribute [local simp] avsEq avEq akind teq vkind vEq

theorem wid_le {t : List (List Int)} (h : Sm t) : wid t ≤ 1000 := h.el 0
theorem placed_c (t : List (List Int)) (ps : List Int) (h : Sm t) (hp : ps.length ≤ 1000) : CallP Try.prog 65 [rdsV t, ints ps] (iv (placedErr t ps)) := by
  refine C65 (by simp) ?_
  have hv := Validate_c t h
  have hwl := wid_le h
  generalize hR : placedErr t ps = R
  unfold placedErr at hR
  simp [A65]
  try simp 
  repeat' (first
    | (refine CallX.pure (hv) (by simp) (by simp) ?_; try simp )
    | (refine CallK.intro (hv) (by simp) (by simp) ?_; try simp )
    | (refine CallG.intro (fun _ => hv) (by simp) (by simp) ?_; try simp )
    | ((with_reducible refine PreK.intro ?_ ?_); (next => (first | omega | (intros; first | omega | (refine ⟨by omega, ?_⟩; repeat (first | assumption | constructor)) | assumption))); intro _; try simp )
    | fail)
  refine CondK.intro (fun h1 => ?_) (fun h1 => ?_)
  · simp at h1
    rw [if_pos h1] at hR
    try simp 
    exact hR
  · simp at h1
    have e0 : 0 < t.length := (vErr_zero h1).pos
    rw [if_neg (by simpa using h1)] at hR
    try simp 
    refine LoopK.by (fun i : Nat => ⟨[(15, iv i), (14, iv ps.length), (13, ints ps), (0, rdsV t)], []⟩) (fun i => ps.length - i) (fun i => i ≤ ps.length ∧ (if ((ps.drop i).any (noPlace t)) = true then 4 else 0) = R) 0 ⟨Nat.zero_le _, hR⟩ (by simp) ?_
    intro i Q' ⟨hi, hc⟩ hq he hr
    try simp 
    refine CondK.intro (fun h3 => ?_) (fun h3 => ?_)
    · simp at h3
      rw [drop_cons ps i h3, List.any_cons] at hc
      have hw2 := swithin_c (el ps i) 0 ((wid t : Int) - 1)
      unfold wid at hw2 hwl
      try simp [h3, e0]
      repeat' (first
        | (refine CallX.pure (hw2) (by simp) (by simp) ?_; try simp [h3, e0])
        | (refine CallK.intro (hw2) (by simp) (by simp) ?_; try simp [h3, e0])
        | (refine CallG.intro (fun _ => hw2) (by simp) (by simp) ?_; try simp [h3, e0])
        | ((with_reducible refine PreK.intro ?_ ?_); (next => (first | omega | (intros; first | omega | (refine ⟨by omega, ?_⟩; repeat (first | assumption | constructor)) | assumption))); intro _; try simp [h3, e0])
        | fail)
      refine CondK.intro (fun h5 => ?_) (fun h5 => ?_)
      · have e : noPlace t (el ps i) = true := by simp at h5; unfold noPlace wid; simp; omega
        rw [e] at hc
        simp only [Bool.true_or, if_true] at hc
        try simp 
        apply hr
        try simp 
        exact hc
      · have e : noPlace t (el ps i) = false := by simp at h5; unfold noPlace wid; simp; omega
        rw [e] at hc
        simp only [Bool.false_or] at hc
        repeat (refine PreK.intro (by first | omega | (intros; first | omega | (refine ⟨by omega, ?_⟩; simp_all; done) | (simp_all; done) | (simp_all; omega))) fun _ => ?_; (try simp ))
        exact hq (i + 1) _ ⟨by omega, hc⟩ (by omega) (by simp)
    · simp at h3
      rw [List.drop_eq_nil_of_le (by omega)] at hc
      simp only [List.any_nil, Bool.false_eq_true, if_false] at hc
      try simp 
      apply he
      try simp 
      exact hc
def treedErr (t : List (List Int)) (par ats : List Int) : Int := if vErr t ≠ 0 then vErr t else if treeErr par ats ≠ 0 then treeErr par ats else if ats.length ≠ t.length then 9 else 0
def fitsErr (t : List (List Int)) (par ats ps : List Int) : Int := if treedErr t par ats ≠ 0 then treedErr t par ats else placedErr t ps
theorem fits_c (t : List (List Int)) (par ats ps : List Int) (h : Sm t) (hp : par.length ≤ 1000) (ha : ats.length ≤ 1000) (hps : ps.length ≤ 1000) : CallP Try.prog 59 [rdsV t, treeV par ats, ints ps] (iv (fitsErr t par ats ps)) := by
  refine C59 (by simp) ?_
  have hv := Validate_c t h
  have ht := ValidateTree_c par ats hp ha
  have hpl := placed_c t ps h hps
  have hn := h.num
  generalize hR : fitsErr t par ats ps = R
  unfold fitsErr at hR
  simp [A59]
  try simp 
  repeat' (first
    | (refine CallX.pure (hv) (by simp) (by simp) ?_; try simp )
    | (refine CallK.intro (hv) (by simp) (by simp) ?_; try simp )
    | (refine CallG.intro (fun _ => hv) (by simp) (by simp) ?_; try simp )
    | ((with_reducible refine PreK.intro ?_ ?_); (next => (first | omega | (intros; first | omega | (refine ⟨by omega, ?_⟩; repeat (first | assumption | constructor)) | assumption))); intro _; try simp )
    | fail)
  refine CondK.intro (fun h1 => ?_) (fun h1 => ?_)
  · simp at h1
    have e : treedErr t par ats = vErr t := if_pos h1
    rw [e, if_pos h1] at hR
    try simp 
    exact hR
  · simp at h1
    try simp 
    repeat' (first
      | (refine CallX.pure (ht) (by simp) (by simp) ?_; try simp )
      | (refine CallK.intro (ht) (by simp) (by simp) ?_; try simp )
      | (refine CallG.intro (fun _ => ht) (by simp) (by simp) ?_; try simp )
      | ((with_reducible refine PreK.intro ?_ ?_); (next => (first | omega | (intros; first | omega | (refine ⟨by omega, ?_⟩; repeat (first | assumption | constructor)) | assumption))); intro _; try simp )
      | fail)
    refine CondK.intro (fun h2 => ?_) (fun h2 => ?_)
    · simp at h2
      have e : treedErr t par ats = treeErr par ats := by unfold treedErr; rw [if_neg (by simpa using h1), if_pos h2]
      rw [e, if_pos h2] at hR
      try simp 
      exact hR
    · simp at h2
      try simp 
      repeat' (first
        | ((with_reducible refine PreK.intro ?_ ?_); (next => (first | omega | (intros; first | omega | (refine ⟨by omega, ?_⟩; repeat (first | assumption | constructor)) | assumption))); intro _; try simp )
        | fail)
      refine CondK.intro (fun h3 => ?_) (fun h3 => ?_)
      · have e : treedErr t par ats = 9 := by unfold treedErr; rw [if_neg (by simpa using h1), if_neg (by simpa using h2), if_pos (by simp at h3; omega)]
        rw [e, if_pos (by decide)] at hR
        try simp 
        exact hR
      · have e : treedErr t par ats = 0 := by unfold treedErr; rw [if_neg (by simpa using h1), if_neg (by simpa using h2), if_neg (by simp at h3; omega)]
        rw [e, if_neg (by decide)] at hR
        try simp 
        refine CallX.pure (by simpa using hpl) (by simp) (by simp) ?_
        try simp 
        exact hR
/-! ### columns -/
theorem column_c (t : List (List Int)) (p : Nat) (hp : p < wid t) (hr : Rds t) : CallP Try.prog 67 [rdsV t, iv p] (ints (colM t p)) := by
  refine C67 (by simp) ?_
  have hn := hr.num
  generalize hR : colM t p = R
  simp [A67]
  refine LoopK.by (ι := Nat × Nat × List Int) (fun x => ⟨[(10, iv x.1), (9, iv t.length), (8, rdsV t), (1, iv p), (5, .sl 5 x.2.1 0 x.2.2.length)], [(5, some ⟨1, x.2.2.map iv, x.2.1, false⟩)]⟩) (fun x => t.length - x.1)
    (fun x => x.1 ≤ t.length ∧ x.2.2 ++ colM (t.drop x.1) p = R) (0, 1, []) ⟨Nat.zero_le _, by simpa using hR⟩ (by simp) ?_
  intro ⟨i, v, acc⟩ Q' ⟨hi, hc⟩ hq he hr'
  dsimp only at hi hc
  have hcl := congrArg List.length hc
  simp only [List.length_append, ← hR, colM_len, List.length_drop] at hcl
  try simp 
  refine CondK.intro (fun h1 => ?_) (fun h1 => ?_)
  · simp at h1
    have hrow := hr.row h1
    rw [drop_cons t i h1, colM, List.map_cons, ← colM] at hc
    have hpl : p < (el t i).length := by omega
    repeat (refine PreK.intro (by first | omega | (intros; first | omega | (refine ⟨by omega, ?_⟩; simp_all; done) | (simp_all; done) | (simp_all; omega))) fun _ => ?_; (try simp [h1, hpl]))
    exact hq (i + 1, v + 1, acc ++ [el (el t i) p]) _ ⟨by dsimp only; omega, by simpa using hc⟩ (by dsimp only; omega) (by simp)
  · simp at h1
    rw [List.drop_eq_nil_of_le (by omega)] at hc
    simp only [colM, List.map_nil, List.append_nil] at hc
    subst hc
    try simp 
    apply he
    try simp 
end Go.Proofs.Ytnpkaemlidifgaa
end

section
/- The library's sort of words, over a lent box. -/
namespace Go.Proofs.Ytnpkaemlidifgaa
open Go.Abs Go

/-- How two words compare. -/
def cmpW (a b : List Int) : Int := if a = b then 0 else if bef a b then -1 else 1

/-! ### the library's sort -/
section
open Go.Sort Go.Shelf
variable {P : Program} {ρ : Ren}

/-- A word and the value that reads so. -/
abbrev Cell (w : World) (Y : Nat → Prop) := { p : List Int × Value // Rep w Y Mu.none (ints p.1) p.2 }
instance {w : World} {Y : Nat → Prop} : Inhabited (Cell w Y) := ⟨⟨([], .slice none 0 0), .nil⟩⟩
def cellV {w : World} {Y : Nat → Prop} (x : Cell w Y) : Value := x.1.2
theorem cellV_one {w : World} {Y : Nat → Prop} : OneCell (cellV (w := w) (Y := Y)) := by
  intro ⟨⟨l, v⟩, h⟩
  unfold cellV
  simp only [ints] at h ⊢
  generalize l.map iv = m at h
  cases h <;> rfl
theorem cell_big {w : World} {Y : Nat → Prop} {l : List Int} {v : Value} (h : Rep w Y Mu.none (ints l) v) : l.length ≤ big := by
  simp only [ints] at h
  have e : l.length = (l.map iv).length := by simp
  rw [e]
  generalize l.map iv = m at h
  cases h with
  | nil => simp
  | seq hY hb hc hf hbig hfit hw h1 h => exact hbig
theorem grows_eq {w w' : World} (h : Grows w w') : w' = Go.Sort.grow (w.drewN (w'.drawn - w.drawn)) (w'.heap.extract w.heap.size w'.heap.size) := by
  obtain ⟨⟨h1, h2⟩, h3, h4, h5, h6⟩ := h
  cases w
  cases w'
  unfold Go.Sort.grow World.drewN
  simp only at h1 h2 h3 h4 h5 h6 ⊢
  simp only [World.mk.injEq]
  refine ⟨?_, h3, by omega, h1, h4⟩
  apply Array.ext_getElem?
  intro k
  rw [Array.getElem?_append]
  split
  · rename_i hk; exact h6 k hk
  · rename_i hk
    rw [Array.getElem?_extract]
    split
    · congr 1; omega
    · rename_i h7
      rw [Array.getElem?_eq_none (by omega)]
theorem sortWorld_other {α : Type} [Inhabited α] {enc : α → Value} {w : World} {blk off m : Nat} {dk : Array α} {os : Array Obj} {b : Nat} (hb : b < w.heap.size) (hne : b ≠ blk) : (Go.Proofs.sortWorld enc w blk off m dk os).heap[b]? = w.heap[b]? := by
  unfold Go.Proofs.sortWorld Go.Sort.grow Go.Sort.putRow Go.Sort.mapBlock Go.Sort.ahead
  simp only
  rw [Array.getElem?_append_left (by simpa using hb), Array.getElem?_modify, if_neg (Ne.symm hne)]
theorem sortWorld_at {α : Type} [Inhabited α] {enc : α → Value} {w : World} {blk off m : Nat} {dk : Array α} {os : Array Obj} {c : Array Value} {e : TypeId} {fr : Nat × Nat} (hb : w.heap[blk]? = some (.cells c e fr)) : (Go.Proofs.sortWorld enc w blk off m dk os).heap[blk]? = some (.cells (Go.Sort.putCells enc off dk c) e fr) := by
  have hlt := lt_of_heap hb
  unfold Go.Proofs.sortWorld Go.Sort.grow Go.Sort.putRow Go.Sort.mapBlock Go.Sort.ahead
  simp only
  rw [Array.getElem?_append_left (by simpa using hlt), Array.getElem?_modify, if_pos rfl, hb]
  rfl
theorem sortWorld_size {α : Type} [Inhabited α] {enc : α → Value} {w : World} {blk off m : Nat} {dk : Array α} {os : Array Obj} : w.heap.size ≤ (Go.Proofs.sortWorld enc w blk off m dk os).heap.size := by
  unfold Go.Proofs.sortWorld Go.Sort.grow Go.Sort.putRow Go.Sort.mapBlock Go.Sort.ahead
  simp
theorem putCells_getD {α : Type} [Inhabited α] {enc : α → Value} {off : Nat} {d : Array α} {c : Array Value} {k : Nat} (hk : k < c.size) : (Go.Sort.putCells enc off d c).getD k undef = if off ≤ k ∧ k < off + d.size then enc d[k - off]! else c.getD k undef := by
  unfold Go.Sort.putCells
  simp [Array.getD, hk]
end
end Go.Proofs.Ytnpkaemlidifgaa
end

section
/- The library's sort of numbers, over a lent box. -/
namespace Go.Proofs.Ytnpkaemlidifgaa
open Go.Abs Go

def sortI (l : List Int) : List Int := l.mergeSort fun x y => decide (x ≤ y)
theorem sortI_perm (l : List Int) : (sortI l).Perm l := List.mergeSort_perm _ _
theorem sortI_len (l : List Int) : (sortI l).length = l.length := (sortI_perm l).length_eq
theorem sortI_sorted (l : List Int) : (sortI l).Pairwise fun x y => x ≤ y := by
  have := List.pairwise_mergeSort (le := fun x y : Int => decide (x ≤ y)) (fun a b c h1 h2 => by simp at h1 h2 ⊢; omega) (fun a b => by simp; omega) l
  simpa [sortI] using this
section
open Go.Shelf
variable {P : Program} {ρ : Ren}
theorem callL_sortI (L : Lays.n189 P ρ) (d : List Int) : CallL P (ρ.f 189) [] 1 (d.map iv) [] (.val (.tup [])) ((sortI d).map iv) := by
  have hsl := sortI_len d
  refine ⟨?_, fun w X l vs hv hsz hX hXl hh hlen hargs => ?_⟩
  · exact ⟨_, L.f189, by simp [Body.n189], by simp [Body.n189]⟩
  obtain ⟨v0, rfl⟩ : ∃ v0, vs = #[v0] := by
    cases vs with
    | mk l =>
      match l, hlen with
      | [a], _ => exact ⟨a, rfl⟩
  have h0 : Rep w (Yof X (mu1 l)) (mu1 l) (.sl lid 0 0 (d.map iv).length) v0 := hargs 0 (by simp)
  generalize hn : (d.map iv).length = n at h0
  simp only [List.length_map] at hn
  cases h0 with
  | slOld hm hv' =>
    simp only [mu1, if_true, Option.some.injEq] at hm
    subst hm
    omega
  | slNil hm hv' =>
    obtain rfl : d = [] := List.eq_nil_of_length_eq_zero hn
    refine (Any.slices_Sort_int_none L _ 0 w).mono fun e w' ⟨he, hw⟩ => ?_
    subst hw
    exact ⟨_, he, Ext.refl _ _, by simpa [sortI] using hh, .tup rfl fun i hi => absurd hi (by simp)⟩
  | @sl _ _ _ _ _ cap loc g0 n0 hm hv' hb hc hfit hz =>
    simp only [mu1, if_true, Option.some.injEq] at hm
    subst hm
    subst hn
    obtain ⟨hbig, hh⟩ := hh
    rw [hb] at hh
    obtain ⟨c, el, hheap, hcs, hlen', hone, hrep⟩ := hh.1 (by simp)
    rw [hsz] at hfit
    simp only [Nat.zero_mul, Nat.add_zero, Nat.zero_add, Nat.mul_one, List.length_map, hsz] at hfit hlen' ⊢
    have hcell : ∀ i, i < d.length → c.getD (l.base + i) undef = .int .i64 (d[i]!) := by
      intro i hi
      have := (hrep i (by simpa using hi)).2
      simp only [List.getD_eq_getElem?_getD, List.getElem?_map, List.getElem?_eq_getElem hi, Option.map_some, Option.getD_some, Nat.mul_one, if_false, Bool.false_eq_true, elemVal] at this
      rw [getElem!_pos d i hi]
      exact this.one.1
    refine (Any.slices_Sort_int L g0 l.base cap d w (fun j hj => ?_) (lt_of_heap hheap) (by simp only [List.length_map, big] at hbig; omega)).mono fun e w' ⟨he, n, os, hw⟩ => ?_
    · have hj' : j < d.length := by simpa using hj
      have hlt : l.base + j < c.size := by omega
      have h3 := hcell j hj'
      refine ⟨?_, ?_⟩
      · unfold World.cell?
        simp only [hheap]
        simp only [Array.getD_eq_getD_getElem?, Array.getElem?_eq_getElem hlt, Option.getD_some] at h3
        simp [hlt, h3, hj']
      · unfold World.frozen?
        simp [hheap]
    · have hw2 : w' = Go.Proofs.sortWorld (Value.int .i64) w g0 l.base n (sortI d).toArray os := hw
      subst hw2
      refine ⟨_, he, ⟨⟨rfl, Nat.le_add_right _ _⟩, rfl, rfl, sortWorld_size, fun b hlt hno => sortWorld_other hlt ?_⟩, ⟨by simpa [hsl] using hbig, ?_⟩, .tup rfl fun i hi => absurd hi (by simp)⟩
      · rintro rfl
        exact hno (blks_mu1.2 ⟨n0, hb⟩)
      · rw [hb]
        refine ⟨fun _ => ⟨_, el, sortWorld_at hheap, by simpa [Go.Sort.putCells] using hcs, by simpa [hsl] using hlen', fun j hj => ?_, fun i hi => ?_⟩, fun h => by cases h⟩
        · rw [putCells_getD (by omega)]
          split
          · rfl
          · exact hone j hj
        · have hi' : i < (sortI d).length := by simpa using hi
          have hlt : l.base + i * 1 < c.size := by rw [hcs]; omega
          have e3 : (List.map iv (sortI d)).getD i .junk = iv ((sortI d)[i]!) := by
            rw [List.getD_eq_getElem?_getD, List.getElem?_map, List.getElem?_eq_getElem hi', getElem!_pos (sortI d) i hi']
            rfl
          rw [e3]
          refine ⟨rfl, ?_⟩
          show Rep _ _ Mu.none _ ((Go.Sort.putCells (Value.int .i64) l.base (sortI d).toArray c).getD (l.base + i * 1) undef)
          rw [putCells_getD hlt, if_pos (by simp; omega), show l.base + i * 1 - l.base = i by omega]
          have e4 : (sortI d).toArray[i]! = (sortI d)[i]! := by simp
          rw [e4]
          exact .raw rfl
end
end Go.Proofs.Ytnpkaemlidifgaa
end

section
/- The library's sort of words at this program: where its functions and types stand (written by the kit's tool lay-plain), and its contract. -/
namespace Go.Proofs.Ytnpkaemlidifgaa
open Go.Abs Go Go.Shelf
def lsortI_ren : Go.Shelf.Ren := ⟨fun | 189 => 96 | 125 => 101 | 257 => 104 | 128 => 114 | 129 => 115 | 294 => 117 | 295 => 118 | 296 => 119 | 297 => 120 | 298 => 121 | 299 => 122 | 216 => 123 | 300 => 124 | 301 => 125 | 328 => 133 | 329 => 127 | 330 => 128 | 331 => 134 | 332 => 135 | 215 => 105 | 343 => 137 | n => n, fun | 28 => 23 | 3 => 3 | 46 => 106 | 0 => 0 | 51 => 119 | 53 => 121 | 4 => 4 | 183 => 112 | 182 => 111 | 131 => 116 | 5 => 5 | 9 => 9 | 218 => 129 | 222 => 133 | 228 => 141 | 229 => 142 | n => n, fun | n => n⟩
theorem lsortI : Go.Proofs.Lays.n189 Try.prog lsortI_ren := {
  mixed := by kernel_rfl
  f125 := Try.func101.trans (congrArg some (by kernel_rfl))
  f128 := Try.func114.trans (congrArg some (by kernel_rfl))
  f129 := Try.func115.trans (congrArg some (by kernel_rfl))
  f189 := Try.func96.trans (congrArg some (by kernel_rfl))
  f215 := Try.func105.trans (congrArg some (by kernel_rfl))
  f216 := Try.func123.trans (congrArg some (by kernel_rfl))
  f257 := Try.func104.trans (congrArg some (by kernel_rfl))
  f294 := Try.func117.trans (congrArg some (by kernel_rfl))
  f295 := Try.func118.trans (congrArg some (by kernel_rfl))
  f296 := Try.func119.trans (congrArg some (by kernel_rfl))
  f297 := Try.func120.trans (congrArg some (by kernel_rfl))
  f298 := Try.func121.trans (congrArg some (by kernel_rfl))
  f299 := Try.func122.trans (congrArg some (by kernel_rfl))
  f300 := Try.func124.trans (congrArg some (by kernel_rfl))
  f301 := Try.func125.trans (congrArg some (by kernel_rfl))
  f328 := Try.func133.trans (congrArg some (by kernel_rfl))
  f329 := Try.func127.trans (congrArg some (by kernel_rfl))
  f330 := Try.func128.trans (congrArg some (by kernel_rfl))
  f331 := Try.func134.trans (congrArg some (by kernel_rfl))
  f332 := Try.func135.trans (congrArg some (by kernel_rfl))
  f343 := Try.func137.trans (congrArg some (by kernel_rfl))
  t0 := Try.underlying0
  a0 := Try.isAgg0
  z0 := Try.sizeOf0
  v0 := Try.zeroValue0
  t3 := Try.underlying3
  a3 := Try.isAgg3
  z3 := Try.sizeOf3
  v3 := Try.zeroValue3
  t4 := Try.underlying4
  a4 := Try.isAgg4
  z4 := Try.sizeOf4
  v4 := Try.zeroValue4
  t5 := Try.underlying5
  a5 := Try.isAgg5
  z5 := Try.sizeOf5
  v5 := Try.zeroValue5
  t9 := Try.underlying9
  a9 := Try.isAgg9
  z9 := Try.sizeOf9
  v9 := Try.zeroValue9
  t28 := Try.underlying23
  a28 := Try.isAgg23
  z28 := Try.sizeOf23
  v28 := Try.zeroValue23
  t46 := Try.underlying106
  a46 := Try.isAgg106
  z46 := Try.sizeOf106
  v46 := Try.zeroValue106
  t51 := Try.underlying119
  a51 := Try.isAgg119
  z51 := Try.sizeOf119
  v51 := Try.zeroValue119
  t53 := Try.underlying121
  a53 := Try.isAgg121
  z53 := Try.sizeOf121
  v53 := Try.zeroValue121
  t131 := Try.underlying116
  a131 := Try.isAgg116
  z131 := Try.sizeOf116
  v131 := Try.zeroValue116
  t182 := Try.underlying111
  a182 := Try.isAgg111
  z182 := Try.sizeOf111
  v182 := Try.zeroValue111
  t183 := Try.underlying112
  a183 := Try.isAgg112
  z183 := Try.sizeOf112
  v183 := Try.zeroValue112
  t218 := Try.underlying129
  a218 := Try.isAgg129
  z218 := Try.sizeOf129
  v218 := Try.zeroValue129
  t222 := Try.underlying133
  a222 := Try.isAgg133
  z222 := Try.sizeOf133
  v222 := Try.zeroValue133
  t228 := Try.underlying141
  a228 := Try.isAgg141
  z228 := Try.sizeOf141
  v228 := Try.zeroValue141
  t229 := Try.underlying142
  a229 := Try.isAgg142
  z229 := Try.sizeOf142
  v229 := Try.zeroValue142 }
end Go.Proofs.Ytnpkaemlidifgaa
end

section
/- Contracts: equal neighbours of numbers left out; how many different readings a list has. -/
namespace Go.Proofs.Ytnpkaemlidifgaa
open Go.Abs Go
set_option maxRecDepth 20000
set_option maxHeartbeats 2000000
attribute [local irreducible] PreK CondK CallK CallG CallX LoopK
attribute [local simp] avsEq avEq akind teq vkind vEq

/-- A list whose equal neighbours are one. -/
def comI (p : Int) : List Int → List Int
  | [] => []
  | y :: l => if y = p then comI p l else y :: comI y l
def compI : List Int → List Int
  | [] => []
  | x :: l => x :: comI x l
theorem comI_num : ∀ (p : Int) (l : List Int), (comI p l).length ≤ l.length
  | p, [] => by simp [comI]
  | p, y :: l => by
    rw [comI]
    split
    · have := comI_num p l; simp; omega
    · have := comI_num y l; simp; omega
theorem compI_num (l : List Int) : (compI l).length ≤ l.length := by
  cases l with
  | nil => simp [compI]
  | cons x l => simp only [compI, List.length_cons]; have := comI_num x l; omega
theorem comI_spec : ∀ (p : Int) (l : List Int), (p :: l).Pairwise (fun x y => x ≤ y) → (p :: comI p l).Pairwise (· < ·) ∧ ∀ z, z ∈ p :: comI p l ↔ z ∈ p :: l
  | p, [], _ => by simp [comI]
  | p, y :: l, h => by
    rw [List.pairwise_cons] at h
    rw [comI]
    split
    · rename_i e
      subst e
      obtain ⟨h1, h2⟩ := comI_spec y l h.2
      exact ⟨h1, fun z => by rw [h2]; simp⟩
    · rename_i e
      obtain ⟨h1, h2⟩ := comI_spec y l h.2
      have hpy : p < y := by have := h.1 y (by simp); omega
      refine ⟨?_, fun z => ?_⟩
      · have h3 := h1
        rw [List.pairwise_cons] at h1 ⊢
        refine ⟨fun z hz => ?_, h3⟩
        rcases List.mem_cons.1 hz with rfl | hz
        · exact hpy
        · have := h1.1 z hz; omega
      · rw [List.mem_cons, h2, ← List.mem_cons]
theorem compI_spec (l : List Int) (h : l.Pairwise (fun x y => x ≤ y)) : (compI l).Pairwise (· < ·) ∧ ∀ z, z ∈ compI l ↔ z ∈ l := by
  cases l with
  | nil => simp [compI]
  | cons x l => exact comI_spec x l h
theorem diffN_comp (l : List Int) : (compI (sortI l)).length = diffN l := by
  obtain ⟨h1, h2⟩ := compI_spec (sortI l) (sortI_sorted l)
  symm
  refine diffN_of (h1.imp fun h => by omega) fun x => ?_
  rw [h2, (sortI_perm l).mem_iff]
theorem take_setI {α : Type} [Inhabited α] (o : List α) (i : Nat) (v : α) (hi : i < o.length) : (o.set i v).take (i + 1) = o.take i ++ [v] := by
  rw [take_succ _ i (by simpa using hi)]
  have : el (o.set i v) i = v := by unfold el; simp [hi]
  rw [this, List.take_set, List.set_eq_of_length_le (by simp; omega)]
theorem Compact_L (l : List Int) (hl : l.length ≤ 1000) :
    CallL Try.prog 97 [] 1 (l.map iv) [] (.part (compI l).length) ((compI l).map iv ++ List.replicate (l.length - (compI l).length) (iv 0)) := by
  refine CL97 (by simp) ?_
  generalize hR : compI l = R
  simp [A97]
  refine CondK.intro (fun h1 => ?_) (fun h1 => ?_)
  · simp at h1
    have : R = l := by
      rw [← hR]
      match l, h1 with
      | [], _ => rfl
      | [x], _ => rfl
      | _ :: _ :: _, h1 => simp at h1; omega
    subst this
    simp
  · simp at h1
    try simp 
    have h0 : l.take 1 ++ comI (el l 0) (l.drop 1) = R := by
      rw [← hR]
      match l, h1 with
      | x :: m, _ => simp [compI, el]
    refine LoopK.by (fun k : Nat => ⟨[(3, iv ((k : Int) + 1)), (0, .sl lid 0 0 l.length)], [(lid, some ⟨1, l.map iv, 0, false⟩)]⟩) (fun i => l.length - i) (fun k => k + 1 ≤ l.length ∧ l.take (k + 1) ++ comI (el l k) (l.drop (k + 1)) = R) 0 ⟨by omega, h0⟩ (by simp) ?_
    intro k Q' ⟨hk, hc⟩ hq he hr
    try simp 
    refine CondK.intro (fun h2 => ?_) (fun h2 => ?_)
    · simp at h2
      have h2' : k + 1 < l.length := by omega
      have h2'' : k < l.length := by omega
      rw [drop_cons l (k + 1) h2', comI] at hc
      repeat (refine PreK.intro (by first | omega | (intros; first | omega | (refine ⟨by omega, ?_⟩; simp_all; done) | (simp_all; done) | (simp_all; omega))) fun _ => ?_; (try simp [h2', h2'']))
      refine CondK.intro (fun h3 => ?_) (fun h3 => ?_)
      · simp at h3
        rw [if_pos h3, ← h3] at hc
        try simp 
        repeat' (first
          | ((with_reducible refine PreK.intro ?_ ?_); (next => (first | omega | (intros; first | omega | (refine ⟨by omega, ?_⟩; repeat (first | assumption | constructor)) | assumption))); intro _; try simp )
          | fail)
        refine LoopK.by (ι := Nat × Nat × List Int) (fun x => ⟨[(5, iv ((x.1 : Int) + 1)), (3, iv x.2.1), (4, .sl lid 0 (k + 1) (l.length - (k + 1))), (0, .sl lid 0 0 l.length)], [(lid, some ⟨1, x.2.2.map iv, 0, false⟩)]⟩) (fun x => l.length - x.1)
          (fun x => k + 1 + x.1 + 1 ≤ l.length ∧ x.2.1 ≤ k + 1 + x.1 ∧ x.2.2.length = l.length ∧ (∀ q, k + 1 + x.1 ≤ q → el x.2.2 q = el l q) ∧ x.2.2.take x.2.1 ++ comI (el l (k + 1 + x.1)) (l.drop (k + 1 + x.1 + 1)) = R) (0, k + 1, l) ⟨by dsimp only; omega, by simp, rfl, fun _ _ => rfl, hc⟩ (by simp) ?_
        intro ⟨j, i, c⟩ Q'' ⟨hj, hij, hcl, hce, hin⟩ hq' he' hr'
        dsimp only at hj hij hcl hce hin
        try simp 
        refine CondK.intro (fun h4 => ?_) (fun h4 => ?_)
        · simp at h4
          have h5 : k + 1 + j + 1 < l.length := by omega
          have e1 := hce (k + 1 + j) (by omega)
          have e2 := hce (k + 1 + (j + 1)) (by omega)
          have e3 : k + 1 + (j + 1) = k + 1 + j + 1 := rfl
          have g1 : k + 1 + j < c.length := by omega
          have g2 : k + 1 + (j + 1) < c.length := by omega
          rw [drop_cons l _ h5, comI] at hin
          repeat (refine PreK.intro (by first | omega | (intros; first | omega | (refine ⟨by omega, ?_⟩; simp_all; done) | (simp_all; done) | (simp_all; omega))) fun _ => ?_; (try simp [g1, g2, e1, e2]))
          refine CondK.intro (fun h6 => ?_) (fun h6 => ?_)
          · simp at h6
            rw [if_neg (by rw [← e3]; exact h6)] at hin
            have g3 : i < c.length := by omega
            repeat (refine PreK.intro (by first | omega | (intros; first | omega | (refine ⟨by omega, ?_⟩; simp_all; done) | (simp_all; done) | (simp_all; omega))) fun _ => ?_; (try simp [g1, g2, e1, e2, g3]))
            refine hq' (j + 1, i + 1, c.set i (el l (k + 1 + (j + 1)))) _ ⟨by dsimp only; omega, by dsimp only; omega, by simpa using hcl, fun q hq2 => ?_, ?_⟩ (by dsimp only; omega) ?_
            · dsimp only at hq2 ⊢
              unfold el
              rw [List.getD_eq_getElem?_getD, List.getElem?_set, if_neg (by omega), ← List.getD_eq_getElem?_getD]
              exact hce q (by omega)
            · dsimp only
              rw [take_setI _ _ _ g3, List.append_assoc]
              exact hin
            · simp [List.map_set]
          · simp at h6
            rw [if_pos (by rw [← e3]; exact h6)] at hin
            repeat (refine PreK.intro (by first | omega | (intros; first | omega | (refine ⟨by omega, ?_⟩; simp_all; done) | (simp_all; done) | (simp_all; omega))) fun _ => ?_; (try simp ))
            refine hq' (j + 1, i, c) _ ⟨by dsimp only; omega, by dsimp only; omega, hcl, fun q hq2 => hce q (by dsimp only at hq2; omega), ?_⟩ (by dsimp only; omega) (by simp)
            dsimp only
            rw [h6]
            exact hin
        · simp at h4
          rw [List.drop_eq_nil_of_le (by omega)] at hin
          simp only [comI, List.append_nil] at hin
          have hRl : R.length = i := by rw [← hin]; simp; omega
          try simp 
          apply he'
          have e5 : (c.map iv).take i = R.map iv := by rw [← hin, List.map_take]
          have e6 : (c.map iv).drop (i + (l.length - i)) = [] := List.drop_eq_nil_of_le (by simp; omega)
          try simp 
          repeat' (first
            | ((with_reducible refine PreK.intro ?_ ?_); (next => (first | omega | (intros; first | omega | (refine ⟨by omega, ?_⟩; repeat (first | assumption | constructor)) | assumption))); intro _; try simp )
            | fail)
          apply hr
          simp only [e5, e6, hRl]
          try simp 
      · simp at h3
        rw [if_neg h3] at hc
        repeat (refine PreK.intro (by first | omega | (intros; first | omega | (refine ⟨by omega, ?_⟩; simp_all; done) | (simp_all; done) | (simp_all; omega))) fun _ => ?_; (try simp ))
        refine hq (k + 1) _ ⟨by omega, ?_⟩ (by omega) (by simp)
        rw [take_succ l (k + 1) h2']
        simpa using hc
    · simp at h2
      rw [List.drop_eq_nil_of_le (by omega)] at hc
      simp only [comI, List.append_nil] at hc
      rw [List.take_of_length_le (by omega)] at hc
      subst hc
      try simp 
      apply he
      try simp 
      repeat' (first
        | ((with_reducible refine PreK.intro ?_ ?_); (next => (first | omega | (intros; first | omega | (refine ⟨by omega, ?_⟩; repeat (first | assumption | constructor)) | assumption))); intro _; try simp )
        | fail)
theorem different_c (l : List Int) (hl : l.length ≤ 1000) : CallP Try.prog 66 [ints l] (iv (diffN l)) := by
  refine C66 (by simp) ?_
  have h1 : CallL Try.prog 96 [] 1 (l.map iv) [] (.val (.tup [])) ((sortI l).map iv) := callL_sortI lsortI l
  have hsl := sortI_len l
  have h2 := Compact_L (sortI l) (by omega)
  have hn := compI_num (sortI l)
  rw [← diffN_comp]
  generalize sortI l = s at h1 h2 hsl hn
  generalize compI s = c at h2 hn
  simp [A66]
  refine CallX.own (by simpa using clone_o l (by omega)) (by simp) (by simp) ?_
  try simp 
  refine CallX.lend [] (id := 4) (ver := 1) (n := l.length) (b := ⟨1, l.map iv, 1, false⟩) [] (.val (.tup [])) _ (by simp) (by simp) (by simp) (by simp) (by simp) (by simp) (by simp) (by simpa using h1) ?_
  try simp 
  refine CallX.lend [] (id := 4) (ver := 1) (n := l.length) (b := ⟨1, s.map iv, 1, false⟩) [] (.part c.length) _ (by simp) (by simp) (by simp) (by simp) (by simp [hsl]) (by simp) (by simp) (by simpa using h2) ?_
  simp [hsl]
end Go.Proofs.Ytnpkaemlidifgaa
end

section
/- Contracts: sides and conflicts. -/
namespace Go.Proofs.Ytnpkaemlidifgaa
open Go.Abs Go
set_option maxRecDepth 20000
set_option maxHeartbeats 2000000
attribute [local irreducible] PreK CondK CallK CallG CallX LoopK
attribute [local simp] avsEq avEq akind teq vkind vEq

theorem weakM {α : Type} (f : α → AV) (hf : ∀ x, weak (f x) = f x) : ∀ l : List α, weakL (l.map f) = l.map f
  | [] => rfl
  | x :: l => by simp [weakL, hf x, weakM f hf l]
@[simp] theorem weakI (l : List Int) : weakL (l.map iv) = l.map iv := weakM iv (fun _ => rfl) l
@[simp] theorem weakR (t : List (List Int)) : weakL (t.map ints) = t.map ints := weakM ints (fun w => by simp only [ints, weak, weakI]) t
theorem placed_zero {t : List (List Int)} {ps : List Int} (h : placedErr t ps = 0) : Rds t ∧ ∀ p ∈ ps, 0 ≤ p ∧ p.toNat < wid t := by
  unfold placedErr at h
  split at h
  · rename_i h1; exact absurd h h1
  · rename_i h1
    split at h
    · cases h
    · rename_i h2
      refine ⟨vErr_zero (by simpa using h1), fun p hp => ?_⟩
      have : noPlace t p = false := by
        cases hb : noPlace t p with
        | false => rfl
        | true => exact absurd (List.any_eq_true.2 ⟨p, hp, hb⟩) h2
      unfold noPlace at this
      simp at this
      omega
theorem placed_nat {t : List (List Int)} {ps : List Int} (h : placedErr t ps = 0) {p : Int} (hp : p ∈ ps) : ∃ n : Nat, p = (n : Int) ∧ n < wid t := by
  have := (placed_zero h).2 p hp
  exact ⟨p.toNat, by omega, this.2⟩
def DiffR (t : List (List Int)) (p : Int) : Int × Int := if placedErr t [p] ≠ 0 then (0, placedErr t [p]) else ((diffN (colM t p.toNat) : Nat), 0)
theorem Different_c (t : List (List Int)) (p : Int) (h : Sm t) : CallP Try.prog 23 [rdsV t, iv p] (.tup [iv (DiffR t p).1, iv (DiffR t p).2]) := by
  refine C23 (by simp) ?_
  have hp := placed_c t [p] h (by simp)
  simp [A23]
  refine CallX.pure (CallP.weak (by simpa [weakL, weak] using hp)) (by simp) (by simp) ?_
  try simp 
  refine CondK.intro (fun h1 => ?_) (fun h1 => ?_)
  · simp at h1
    simp [DiffR, h1]
  · simp at h1
    obtain ⟨n, rfl, hn⟩ := placed_nat h1 (List.mem_singleton.2 rfl)
    have hr := (placed_zero h1).1
    have hd := different_c (colM t n) (by rw [colM_len]; have := hr.num; omega)
    try simp 
    repeat' (first
      | (refine CallX.pure (column_c t n hn hr) (by simp) (by simp) ?_; try simp )
      | (refine CallK.intro (column_c t n hn hr) (by simp) (by simp) ?_; try simp )
      | (refine CallG.intro (fun _ => column_c t n hn hr) (by simp) (by simp) ?_; try simp )
      | (refine CallX.pure (hd) (by simp) (by simp) ?_; try simp )
      | (refine CallK.intro (hd) (by simp) (by simp) ?_; try simp )
      | (refine CallG.intro (fun _ => hd) (by simp) (by simp) ?_; try simp )
      | ((with_reducible refine PreK.intro ?_ ?_); (next => (first | omega | (intros; first | omega | (refine ⟨by omega, ?_⟩; repeat (first | assumption | constructor)) | assumption))); intro _; try simp )
      | fail)
    simp [DiffR, h1]
theorem side_c (t : List (List Int)) (p : Nat) (hp : p < wid t) (hr : Rds t) :
    CallP Try.prog 75 [rdsV t, iv p] (.tup [ints (if diffN (colM t p) = 2 then sideF (el (colM t p) 0) 0 (colM t p) else []), bv (decide (diffN (colM t p) = 2))]) := by
  refine C75 (by simp) ?_
  have hcl := colM_len t p
  have hn := hr.num
  have h0 := hr.pos
  have hco := column_c t p hp hr
  generalize colM t p = l at hco hcl
  have hd := different_c l (by omega)
  have hdn := diffN_len l
  simp [A75]
  try simp 
  repeat' (first
    | (refine CallX.pure (hco) (by simp) (by simp) ?_; try simp )
    | (refine CallK.intro (hco) (by simp) (by simp) ?_; try simp )
    | (refine CallG.intro (fun _ => hco) (by simp) (by simp) ?_; try simp )
    | (refine CallX.pure (hd) (by simp) (by simp) ?_; try simp )
    | (refine CallK.intro (hd) (by simp) (by simp) ?_; try simp )
    | (refine CallG.intro (fun _ => hd) (by simp) (by simp) ?_; try simp )
    | ((with_reducible refine PreK.intro ?_ ?_); (next => (first | omega | (intros; first | omega | (refine ⟨by omega, ?_⟩; repeat (first | assumption | constructor)) | assumption))); intro _; try simp )
    | fail)
  refine CondK.intro (fun h1 => ?_) (fun h1 => ?_)
  · have e : ¬ diffN l = 2 := by simp at h1; omega
    simp [e]
  · have e : diffN l = 2 := by simp at h1; omega
    generalize hR : sideF (el l 0) 0 l = R
    have e0 : 0 < l.length := by omega
    try simp 
    refine LoopK.by (ι := Nat × Nat × List Int) (fun x => ⟨[(18, iv x.1), (17, iv l.length), (16, ints l), (6, ints l), (7, .sl 7 x.2.1 0 x.2.2.length)], [(7, some ⟨1, x.2.2.map iv, x.2.1, false⟩)]⟩) (fun x => l.length - x.1)
      (fun x => x.1 ≤ l.length ∧ x.2.2.length ≤ x.1 ∧ x.2.2 ++ sideF (el l 0) x.1 (l.drop x.1) = R) (0, 1, []) ⟨Nat.zero_le _, by simp, by simpa using hR⟩ (by simp) ?_
    intro ⟨i, v, acc⟩ Q' ⟨hi, ha, hc⟩ hq he hr'
    dsimp only at hi ha hc
    try simp 
    refine CondK.intro (fun h2 => ?_) (fun h2 => ?_)
    · simp at h2
      rw [drop_cons l i h2, sideF] at hc
      try simp [h2, e0]
      repeat' (first
        | ((with_reducible refine PreK.intro ?_ ?_); (next => (first | omega | (intros; first | omega | (refine ⟨by omega, ?_⟩; repeat (first | assumption | constructor)) | assumption))); intro _; try simp [h2, e0])
        | fail)
      refine CondK.intro (fun h3 => ?_) (fun h3 => ?_)
      · simp at h3
        rw [if_pos h3] at hc
        repeat (refine PreK.intro (by first | omega | (intros; first | omega | (refine ⟨by omega, ?_⟩; simp_all; done) | (simp_all; done) | (simp_all; omega))) fun _ => ?_; (try simp ))
        exact hq (i + 1, v + 1, acc ++ [(i : Int)]) _ ⟨by dsimp only; omega, by simp; omega, by simpa using hc⟩ (by dsimp only; omega) (by simp)
      · simp at h3
        rw [if_neg (by simpa using h3)] at hc
        repeat (refine PreK.intro (by first | omega | (intros; first | omega | (refine ⟨by omega, ?_⟩; simp_all; done) | (simp_all; done) | (simp_all; omega))) fun _ => ?_; (try simp ))
        exact hq (i + 1, v, acc) _ ⟨by dsimp only; omega, by dsimp only; omega, hc⟩ (by dsimp only; omega) (by simp)
    · simp at h2
      rw [List.drop_eq_nil_of_le (by omega)] at hc
      simp only [sideF, List.append_nil] at hc
      subst hc
      try simp 
      apply he
      simp [e]
def SideR (t : List (List Int)) (p : Int) : List Int × Bool × Int :=
  if placedErr t [p] ≠ 0 then ([], false, placedErr t [p]) else if diffN (colM t p.toNat) = 2 then (sideF (el (colM t p.toNat) 0) 0 (colM t p.toNat), true, 0) else ([], false, 0)
theorem Side_c (t : List (List Int)) (p : Int) (h : Sm t) : CallP Try.prog 32 [rdsV t, iv p] (.tup [ints (SideR t p).1, bv (SideR t p).2.1, iv (SideR t p).2.2]) := by
  refine C32 (by simp) ?_
  have hp := placed_c t [p] h (by simp)
  simp [A32]
  refine CallX.pure (CallP.weak (by simpa [weakL, weak] using hp)) (by simp) (by simp) ?_
  try simp 
  refine CondK.intro (fun h1 => ?_) (fun h1 => ?_)
  · simp at h1
    simp [SideR, h1]
  · simp at h1
    obtain ⟨n, rfl, hn⟩ := placed_nat h1 (List.mem_singleton.2 rfl)
    have hr := (placed_zero h1).1
    try simp 
    repeat' (first
      | (refine CallX.pure (side_c t n hn hr) (by simp) (by simp) ?_; try simp )
      | (refine CallK.intro (side_c t n hn hr) (by simp) (by simp) ?_; try simp )
      | (refine CallG.intro (fun _ => side_c t n hn hr) (by simp) (by simp) ?_; try simp )
      | ((with_reducible refine PreK.intro ?_ ?_); (next => (first | omega | (intros; first | omega | (refine ⟨by omega, ?_⟩; repeat (first | assumption | constructor)) | assumption))); intro _; try simp )
      | fail)
    by_cases e : diffN (colM t n) = 2
    · simp [SideR, h1, e]
    · simp [SideR, h1, e]
/-! ### conflicts -/
def entsP (l : List (Int × Int)) : List AV := l.map fun x => .tup [.agg [iv x.1, iv x.2], bv true]
def addP (l : List (Int × Int)) (x : Int × Int) : List (Int × Int) := if x ∈ l then l else l ++ [x]
def okP (x : Int × Int) : Prop := (0 ≤ x.1 ∧ x.1 ≤ 2) ∧ 0 ≤ x.2 ∧ x.2 ≤ 2
theorem keysOK_P : ∀ l : List (Int × Int), (∀ x ∈ l, okP x) → keysOK .two (entsP l) = true
  | [], _ => rfl
  | x :: l, h => by
    have hx := h x (by simp)
    have ih := keysOK_P l fun y hy => h y (by simp [hy])
    unfold okP at hx
    simp only [entsP, List.map_cons, keysOK, entK, akey, iv] at ih ⊢
    rw [ih]
    simp [KK.fits]
    omega
theorem mfind_P (x : Int × Int) : ∀ (l : List (Int × Int)) (i : Nat), mfind (.two x.1 x.2) (entsP l) i = if x ∈ l then some (i + l.idxOf x, bv true) else none
  | [], i => by simp [entsP, mfind]
  | y :: l, i => by
    have ih := mfind_P x l (i + 1)
    have e0 : entsP (y :: l) = .tup [.agg [iv y.1, iv y.2], bv true] :: entsP l := rfl
    have e1 : entK (.tup [.agg [iv y.1, iv y.2], bv true]) = some (.two y.1 y.2) := rfl
    have e2 : entW (.tup [.agg [iv y.1, iv y.2], bv true]) = bv true := rfl
    rw [e0, mfind]
    by_cases e : y = x
    · subst e
      rw [if_pos e1, e2]
      simp
    · rw [if_neg (fun h => by rw [e1] at h; simp at h; exact e (Prod.ext h.1 h.2)), ih]
      by_cases hx : x ∈ l
      · rw [if_pos hx, if_pos (by simp [hx]), List.idxOf_cons]
        simp [beq_eq_false_iff_ne.2 e]
        omega
      · rw [if_neg hx, if_neg (by simp [hx, Ne.symm e])]
theorem mput_P (x : Int × Int) (l : List (Int × Int)) : mput (.two x.1 x.2) (.tup [.agg [iv x.1, iv x.2], bv true]) (entsP l) = entsP (addP l x) := by
  unfold mput addP
  rw [mfind_P]
  by_cases h : x ∈ l
  · rw [if_pos h, if_pos h]
    dsimp only
    rw [Nat.zero_add]
    have hi := List.idxOf_lt_length_of_mem h
    apply List.ext_getElem?
    intro k
    rw [List.getElem?_set]
    by_cases e : l.idxOf x = k
    · subst e
      have : l[l.idxOf x] = x := List.getElem_idxOf hi
      simp [entsP, hi, this]
    · simp [e]
  · rw [if_neg h, if_neg h]
    simp [entsP]
theorem addP_mem (l : List (Int × Int)) (x y : Int × Int) : y ∈ addP l x ↔ y ∈ l ∨ y = x := by
  unfold addP
  split
  · rename_i h
    exact ⟨.inl, fun h2 => h2.elim id fun e => e ▸ h⟩
  · simp
theorem addP_nodup {l : List (Int × Int)} (h : l.Nodup) (x : Int × Int) : (addP l x).Nodup := by
  unfold addP
  split
  · exact h
  · rename_i hx
    rw [List.nodup_append]
    exact ⟨h, by simp, fun a ha b hb e => by simp at hb; subst hb; exact hx (e ▸ ha)⟩
def addsP : List (Int × Int) → List (Int × Int) → List (Int × Int)
  | acc, [] => acc
  | acc, x :: l => addsP (addP acc x) l
theorem addsP_spec : ∀ (l acc : List (Int × Int)), acc.Nodup → (addsP acc l).Nodup ∧ ∀ y, y ∈ addsP acc l ↔ y ∈ acc ∨ y ∈ l
  | [], acc, h => ⟨h, fun y => by simp [addsP]⟩
  | x :: l, acc, h => by
    obtain ⟨h1, h2⟩ := addsP_spec l _ (addP_nodup h x)
    refine ⟨h1, fun y => ?_⟩
    rw [addsP, h2, addP_mem, List.mem_cons, or_assoc]
theorem addsP_len (l : List (Int × Int)) : (addsP [] l).length = diffN l := by
  obtain ⟨h1, h2⟩ := addsP_spec l [] List.nodup_nil
  symm
  exact diffN_of h1 fun x => by rw [h2]; simp
theorem zip_drop {a b : List Int} {i : Nat} (h : i < a.length) (h2 : i < b.length) : (a.zip b).drop i = (el a i, el b i) :: (a.zip b).drop (i + 1) := by
  have hi : i < (a.zip b).length := by simp; omega
  rw [drop_cons _ i hi]
  congr 1
  unfold el
  rw [List.getD_eq_getElem?_getD, List.getElem?_eq_getElem hi, List.getD_eq_getElem?_getD, List.getD_eq_getElem?_getD, List.getElem?_eq_getElem h, List.getElem?_eq_getElem h2]
  simp
theorem conflict_c (t : List (List Int)) (p q : Nat) (hp : p < wid t) (hq : q < wid t) (hr : Rds t) : CallP Try.prog 77 [rdsV t, iv p, iv q] (bv (confM t p q)) := by
  refine C77 (by simp) ?_
  have hn := hr.num
  have hco := column_c t p hp hr
  have hco2 := column_c t q hq hr
  have hcl := colM_len t p
  have hcl2 := colM_len t q
  have hva := hr.col hp
  have hvb := hr.col hq
  generalize hR : confM t p q = R
  unfold confM at hR
  generalize colM t p = a at hco hcl hva hR
  generalize colM t q = b at hco2 hcl2 hvb hR
  have hd := different_c a (by omega)
  have hd2 := different_c b (by omega)
  have hdn := diffN_len a
  have hdn2 := diffN_len b
  have hdz := diffN_len (a.zip b)
  rw [List.length_zip] at hdz
  simp [A77]
  try simp 
  repeat' (first
    | (refine CallX.pure (hco) (by simp) (by simp) ?_; try simp )
    | (refine CallK.intro (hco) (by simp) (by simp) ?_; try simp )
    | (refine CallG.intro (fun _ => hco) (by simp) (by simp) ?_; try simp )
    | (refine CallX.pure (hco2) (by simp) (by simp) ?_; try simp )
    | (refine CallK.intro (hco2) (by simp) (by simp) ?_; try simp )
    | (refine CallG.intro (fun _ => hco2) (by simp) (by simp) ?_; try simp )
    | (refine CallX.pure (hd) (by simp) (by simp) ?_; try simp )
    | (refine CallK.intro (hd) (by simp) (by simp) ?_; try simp )
    | (refine CallG.intro (fun _ => hd) (by simp) (by simp) ?_; try simp )
    | ((with_reducible refine PreK.intro ?_ ?_); (next => (first | omega | (intros; first | omega | (refine ⟨by omega, ?_⟩; repeat (first | assumption | constructor)) | assumption))); intro _; try simp )
    | fail)
  by_cases e1 : diffN a = 2
  · rw [e1] at hR
    try simp [e1]
    repeat' (first
      | (refine CallX.pure (hd2) (by simp) (by simp) ?_; try simp [e1])
      | (refine CallK.intro (hd2) (by simp) (by simp) ?_; try simp [e1])
      | (refine CallG.intro (fun _ => hd2) (by simp) (by simp) ?_; try simp [e1])
      | ((with_reducible refine PreK.intro ?_ ?_); (next => (first | omega | (intros; first | omega | (refine ⟨by omega, ?_⟩; repeat (first | assumption | constructor)) | assumption))); intro _; try simp [e1])
      | fail)
    refine CondK.intro (fun h1 => ?_) (fun h1 => ?_)
    · have e : ¬ diffN b = 2 := by simp at h1; omega
      simp [e] at hR
      simp [hR]
    · have e : diffN b = 2 := by simp at h1; omega
      simp only [e, decide_true, Bool.true_and] at hR
      try simp 
      repeat (refine PreK.intro (by first | omega | (intros; first | omega | (refine ⟨by omega, ?_⟩; simp_all; done) | (simp_all; done) | (simp_all; omega))) fun _ => ?_; (try simp ))
      refine LoopK.by (ι := Nat × List (Int × Int)) (fun x => ⟨[(28, iv x.1), (27, iv a.length), (7, ints a), (8, ints b), (9, .mp 25 1)], [(25, some ⟨0, entsP x.2, 1, false⟩)]⟩) (fun x => a.length - x.1)
        (fun x => x.1 ≤ a.length ∧ x.2.length ≤ x.1 ∧ (∀ y ∈ x.2, okP y) ∧ addsP x.2 ((a.zip b).drop x.1) = addsP [] (a.zip b)) (0, []) ⟨Nat.zero_le _, by simp, by simp, by simp⟩ (by simp [entsP]) ?_
      intro ⟨i, acc⟩ Q' ⟨hi, ha, hok, hc⟩ hq' he hr'
      dsimp only at hi ha hok hc
      have hel : (entsP acc).length = acc.length := by simp [entsP]
      have hky := keysOK_P acc hok
      try simp 
      refine CondK.intro (fun h2 => ?_) (fun h2 => ?_)
      · simp at h2
        have h3 : i < b.length := by omega
        rw [zip_drop h2 h3, addsP] at hc
        have v1 := hva _ (el_mem_of a i h2)
        have v2 := hvb _ (el_mem_of b i h3)
        have hmp := mput_P (el a i, el b i) acc
        have f1 : el a i < 1000000 := by omega
        have f2 : el b i < 1000000 := by omega
        have f3 : 0 ≤ el a i := v1.1
        have f4 : 0 ≤ el b i := v2.1
        have f5 : acc.length < big := by have := sbig (show acc.length ≤ 1000 by omega); simp only [big] at this ⊢; omega
        unfold mput at hmp
        simp only [iv, bv] at hmp
        repeat (refine PreK.intro (by first | omega | (intros; first | omega | (refine ⟨by omega, ?_⟩; simp_all; done) | (simp_all; done) | (simp_all; omega))) fun _ => ?_; (try simp [h2, h3, hky, hel, f1, f2, f3, f4, f5]))
        refine hq' (i + 1, addP acc (el a i, el b i)) _ ⟨by dsimp only; omega, ?_, fun y hy => ?_, hc⟩ (by dsimp only; omega) (by simp; exact .inl hmp)
        · dsimp only
          unfold addP
          split
          · omega
          · simp; omega
        · rcases (addP_mem _ _ _).1 hy with hy | rfl
          · exact hok y hy
          · exact ⟨v1, v2⟩
      · simp at h2
        rw [List.drop_eq_nil_of_le (by simp; omega)] at hc
        simp only [addsP] at hc
        have hl := addsP_len (a.zip b)
        rw [← hc] at hl
        try simp 
        apply he
        rw [← hR, ← hl]
        repeat (refine PreK.intro (by first | omega | (intros; first | omega | (refine ⟨by omega, ?_⟩; simp_all; done) | (simp_all; done) | (simp_all; omega))) fun _ => ?_; (try simp [hel]))
        omega
  · have hR' : R = false := by simpa [e1] using hR.symm
    subst hR'
    have e1' : ¬ ((diffN a : Nat) : Int) = 2 := by omega
    try simp [e1']
    repeat' (first
      | ((with_reducible refine PreK.intro ?_ ?_); (next => (first | omega | (intros; first | omega | (refine ⟨by omega, ?_⟩; repeat (first | assumption | constructor)) | assumption))); intro _; try simp [e1'])
      | fail)
    refine CallG.intro (r := bv true) (fun hh => by cases hh) (by simp) (by simp) ?_
    try simp 
    repeat (refine PreK.intro (by first | omega | (intros; first | omega | (refine ⟨by omega, ?_⟩; simp_all; done) | (simp_all; done) | (simp_all; omega))) fun _ => ?_; (try simp [e1']))
    refine CondK.tt ?_
    try simp 
end Go.Proofs.Ytnpkaemlidifgaa
end

section
/- Contracts: all conflicts, by both ways. -/
namespace Go.Proofs.Ytnpkaemlidifgaa
open Go.Abs Go
set_option maxRecDepth 20000
set_option maxHeartbeats 2000000
attribute [local irreducible] PreK CondK CallK CallG CallX LoopK
attribute [local simp] avsEq avEq akind teq vkind vEq

/-! ### all of them -/
@[simp] def pairV (x : Nat × Nat) : AV := .agg [iv x.1, iv x.2]
@[simp] def pairsV (l : List (Nat × Nat)) : AV := .seq 2 (l.map pairV) false
theorem conflicts_c (t : List (List Int)) (hr : Rds t) : CallP Try.prog 79 [rdsV t] (pairsV (confsM t)) := by
  refine C79 (by simp) ?_
  have hn := hr.num
  have e0 : 0 < t.length := hr.pos
  have hw : wid t ≤ 6 := hr.w6
  have hwd : (el t 0).length = wid t := rfl
  have hcl := confs_len t hw
  generalize hR : confsM t = R at hcl
  unfold confsM at hR
  simp [A79]
  repeat (refine PreK.intro (by first | omega | (intros; first | omega | (refine ⟨by omega, ?_⟩; simp_all; done) | (simp_all; done) | (simp_all; omega))) fun _ => ?_; (try simp [e0, hwd]))
  refine LoopK.by (ι := Nat × Nat × List (Nat × Nat)) (fun x => ⟨[(10, iv x.1), (9, iv (wid t)), (0, rdsV t), (3, .sl 3 x.2.1 0 x.2.2.length)], [(3, some ⟨2, x.2.2.map pairV, x.2.1, false⟩)]⟩) (fun x => wid t - x.1)
    (fun x => x.1 ≤ wid t ∧ x.2.2 ++ confsG t (wid t) x.1 (wid t - x.1) = R) (0, 1, []) ⟨Nat.zero_le _, by simpa using hR⟩ (by simp) ?_
  intro ⟨p, v, acc⟩ Q' ⟨hi, hc⟩ hq he hr'
  dsimp only at hi hc
  try simp 
  refine CondK.intro (fun h1 => ?_) (fun h1 => ?_)
  · simp at h1
    rw [show wid t - p = (wid t - (p + 1)) + 1 by omega, confsG] at hc
    repeat (refine PreK.intro (by first | omega | (intros; first | omega | (refine ⟨by omega, ?_⟩; simp_all; done) | (simp_all; done) | (simp_all; omega))) fun _ => ?_; (try simp ))
    refine LoopK.by (ι := Nat × Nat × List (Nat × Nat)) (fun x => ⟨[(5, iv x.1), (4, iv p), (10, iv p), (9, iv (wid t)), (0, rdsV t), (3, .sl 3 x.2.1 0 x.2.2.length)], [(3, some ⟨2, x.2.2.map pairV, x.2.1, false⟩)]⟩) (fun x => wid t - x.1)
      (fun x => p < x.1 ∧ x.1 ≤ wid t ∧ x.2.2 ++ (confsF t p x.1 (wid t - x.1) ++ confsG t (wid t) (p + 1) (wid t - (p + 1))) = R) (p + 1, v, acc) ⟨by dsimp only; omega, by dsimp only; omega, hc⟩ (by simp) ?_
    intro ⟨q, v2, acc2⟩ Q2 ⟨hpq, hj, hc2⟩ hq2 he2 hr2
    dsimp only at hpq hj hc2
    have hcl2 := congrArg List.length hc2
    simp only [List.length_append] at hcl2
    try simp 
    repeat (refine PreK.intro (by first | omega | (intros; first | omega | (refine ⟨by omega, ?_⟩; simp_all; done) | (simp_all; done) | (simp_all; omega))) fun _ => ?_; (try simp [e0, hwd]))
    refine CondK.intro (fun h2 => ?_) (fun h2 => ?_)
    · simp at h2
      have h2' : q < wid t := by omega
      rw [show wid t - q = (wid t - (q + 1)) + 1 by omega, confsF] at hc2
      have hcf := conflict_c t p q h1 h2' hr
      try simp 
      repeat' (first
        | (refine CallX.pure (hcf) (by simp) (by simp) ?_; try simp )
        | (refine CallK.intro (hcf) (by simp) (by simp) ?_; try simp )
        | (refine CallG.intro (fun _ => hcf) (by simp) (by simp) ?_; try simp )
        | ((with_reducible refine PreK.intro ?_ ?_); (next => (first | omega | (intros; first | omega | (refine ⟨by omega, ?_⟩; repeat (first | assumption | constructor)) | assumption))); intro _; try simp )
        | fail)
      refine CondK.intro (fun h3 => ?_) (fun h3 => ?_)
      · rw [if_pos h3] at hc2
        repeat (refine PreK.intro (by first | omega | (intros; first | omega | (refine ⟨by omega, ?_⟩; simp_all; done) | (simp_all; done) | (simp_all; omega))) fun _ => ?_; (try simp ))
        exact hq2 (q + 1, v2 + 1, acc2 ++ [(p, q)]) _ ⟨by dsimp only; omega, by dsimp only; omega, by simpa using hc2⟩ (by dsimp only; omega) (by simp)
      · rw [if_neg (by simp [h3])] at hc2
        repeat (refine PreK.intro (by first | omega | (intros; first | omega | (refine ⟨by omega, ?_⟩; simp_all; done) | (simp_all; done) | (simp_all; omega))) fun _ => ?_; (try simp ))
        exact hq2 (q + 1, v2, acc2) _ ⟨by dsimp only; omega, by dsimp only; omega, hc2⟩ (by dsimp only; omega) (by simp)
    · simp at h2
      have : q = wid t := by omega
      subst this
      simp only [Nat.sub_self, confsF, List.nil_append] at hc2
      try simp 
      apply he2
      repeat (refine PreK.intro (by first | omega | (intros; first | omega | (refine ⟨by omega, ?_⟩; simp_all; done) | (simp_all; done) | (simp_all; omega))) fun _ => ?_; (try simp ))
      exact hq (p + 1, v2, acc2) _ ⟨by dsimp only; omega, hc2⟩ (by dsimp only; omega) (by simp)
  · simp at h1
    have : p = wid t := by omega
    subst this
    simp only [Nat.sub_self, confsG, List.append_nil] at hc
    subst hc
    try simp 
    apply he
    try simp 
def ConfsR (t : List (List Int)) : List (Nat × Nat) × Int := if vErr t ≠ 0 then ([], vErr t) else (confsM t, 0)
theorem Conflicts_c (t : List (List Int)) (h : Sm t) : CallP Try.prog 39 [rdsV t] (.tup [pairsV (ConfsR t).1, iv (ConfsR t).2]) := by
  refine C39 (by simp) ?_
  simp [A39]
  try simp 
  repeat' (first
    | (refine CallX.pure (Validate_c t h) (by simp) (by simp) ?_; try simp )
    | (refine CallK.intro (Validate_c t h) (by simp) (by simp) ?_; try simp )
    | (refine CallG.intro (fun _ => Validate_c t h) (by simp) (by simp) ?_; try simp )
    | ((with_reducible refine PreK.intro ?_ ?_); (next => (first | omega | (intros; first | omega | (refine ⟨by omega, ?_⟩; repeat (first | assumption | constructor)) | assumption))); intro _; try simp )
    | fail)
  refine CondK.intro (fun h1 => ?_) (fun h1 => ?_)
  · simp at h1
    simp [ConfsR, h1]
  · simp at h1
    try simp 
    repeat' (first
      | (refine CallX.pure (conflicts_c t (vErr_zero h1)) (by simp) (by simp) ?_; try simp )
      | (refine CallK.intro (conflicts_c t (vErr_zero h1)) (by simp) (by simp) ?_; try simp )
      | (refine CallG.intro (fun _ => conflicts_c t (vErr_zero h1)) (by simp) (by simp) ?_; try simp )
      | ((with_reducible refine PreK.intro ?_ ?_); (next => (first | omega | (intros; first | omega | (refine ⟨by omega, ?_⟩; repeat (first | assumption | constructor)) | assumption))); intro _; try simp )
      | fail)
    simp [ConfsR, h1]
def CanR (t : List (List Int)) : Bool × Int := if vErr t ≠ 0 then (false, vErr t) else (decide ((confsM t).length = 0), 0)
theorem CanTree_c (t : List (List Int)) (h : Sm t) : CallP Try.prog 41 [rdsV t] (.tup [bv (CanR t).1, iv (CanR t).2]) := by
  refine C41 (by simp) ?_
  simp [A41]
  try simp 
  repeat' (first
    | (refine CallX.pure (Validate_c t h) (by simp) (by simp) ?_; try simp )
    | (refine CallK.intro (Validate_c t h) (by simp) (by simp) ?_; try simp )
    | (refine CallG.intro (fun _ => Validate_c t h) (by simp) (by simp) ?_; try simp )
    | ((with_reducible refine PreK.intro ?_ ?_); (next => (first | omega | (intros; first | omega | (refine ⟨by omega, ?_⟩; repeat (first | assumption | constructor)) | assumption))); intro _; try simp )
    | fail)
  refine CondK.intro (fun h1 => ?_) (fun h1 => ?_)
  · simp at h1
    simp [CanR, h1]
  · simp at h1
    try simp 
    repeat' (first
      | (refine CallX.pure (conflicts_c t (vErr_zero h1)) (by simp) (by simp) ?_; try simp )
      | (refine CallK.intro (conflicts_c t (vErr_zero h1)) (by simp) (by simp) ?_; try simp )
      | (refine CallG.intro (fun _ => conflicts_c t (vErr_zero h1)) (by simp) (by simp) ?_; try simp )
      | ((with_reducible refine PreK.intro ?_ ?_); (next => (first | omega | (intros; first | omega | (refine ⟨by omega, ?_⟩; repeat (first | assumption | constructor)) | assumption))); intro _; try simp )
      | fail)
    simp [CanR, h1]
end Go.Proofs.Ytnpkaemlidifgaa
end

section
/- Functions of the cut as the value layer reads them. (written by gen.py) -/
set_option maxRecDepth 20000
namespace Go.Proofs.Ytnpkaemlidifgaa
open Go.Abs Go

def A116 : ACode :=
  (.seq (.reg [] [⟨some 4, (.assign (.const (.int .u64 0))), 106, none⟩,
      ⟨some 5, (.assign (.const (.int .u64 0))), 106, none⟩])
    (.seq (.cond (.const (.bool false))
    (.seq (.reg [] [⟨some 11, (.move (.tmp 0)), 106, none⟩,
      ⟨some 12, (.convert 106 119 (.tmp 11)), 119, none⟩,
      ⟨some 13, (.move (.tmp 1)), 106, none⟩,
      ⟨some 14, (.convert 106 119 (.tmp 13)), 119, none⟩,
      ⟨some 15, (.call ⟨(.value (.func 131)), #[(.tmp 12), (.tmp 14)], #[119, 119]⟩), 135, none⟩,
      ⟨some 10, (.move (.tmp 15)), 135, none⟩,
      ⟨some 16, (.extract (.tmp 10) 0), 119, none⟩,
      ⟨some 17, (.extract (.tmp 10) 1), 119, none⟩,
      ⟨some 6, (.assign (.tmp 16)), 119, none⟩,
      ⟨some 7, (.assign (.tmp 17)), 119, none⟩])
    (.seq (.reg [] [⟨some 18, (.move (.tmp 6)), 119, none⟩,
      ⟨some 19, (.convert 119 106 (.tmp 18)), 106, none⟩,
      ⟨some 20, (.move (.tmp 7)), 119, none⟩,
      ⟨some 21, (.convert 119 106 (.tmp 20)), 106, none⟩,
      ⟨some 4, (.assign (.tmp 19)), 106, none⟩,
      ⟨some 5, (.assign (.tmp 21)), 106, none⟩])
    .ret))
    .skip)
    (.seq (.reg [] [⟨some 23, (.move (.tmp 0)), 106, none⟩,
      ⟨some 24, (.move (.tmp 1)), 106, none⟩,
      ⟨some 25, (.call ⟨(.value (.func 132)), #[(.tmp 23), (.tmp 24)], #[121, 121]⟩), 137, none⟩,
      ⟨some 22, (.move (.tmp 25)), 137, none⟩,
      ⟨some 26, (.extract (.tmp 22) 0), 121, none⟩,
      ⟨some 27, (.extract (.tmp 22) 1), 121, none⟩,
      ⟨some 8, (.assign (.tmp 26)), 121, none⟩,
      ⟨some 9, (.assign (.tmp 27)), 121, none⟩])
    (.seq (.reg [] [⟨some 28, (.move (.tmp 8)), 121, none⟩,
      ⟨some 29, (.move (.tmp 9)), 121, none⟩,
      ⟨some 4, (.assign (.tmp 28)), 106, none⟩,
      ⟨some 5, (.assign (.tmp 29)), 106, none⟩])
    .ret))))
theorem C116 {args : List AV} {r : AV} (hn : args.length ≤ 30) (h : vc Try.prog T [] A116 (Fin T [(.tmp 4), (.tmp 5)] r) ⟨envOf 0 args, []⟩) : CallP Try.prog 116 args r :=
  callP_of tok mixed Try.func116 (by kernel_rfl) (by kernel_rfl) (by kernel_rfl : Try.f116.ntmps = 30) (by kernel_rfl : Try.f116.body.bind (strip 30 (fun _ => [])) = some A116) hn h
def A132 : ACode :=
  (.seq (.reg [] [⟨some 4, (.assign (.const (.int .u64 0))), 121, none⟩,
      ⟨some 5, (.assign (.const (.int .u64 0))), 121, none⟩])
    (.seq (.reg [] [⟨some 14, (.move (.tmp 0)), 121, none⟩,
      ⟨some 15, (.binOp .and 121 (.tmp 14) (.const (.int .u64 4294967295)) 121), 121, none⟩,
      ⟨some 6, (.assign (.tmp 15)), 121, none⟩])
    (.seq (.reg [] [⟨some 16, (.move (.tmp 0)), 121, none⟩,
      ⟨some 17, (.binOp .shr 121 (.tmp 16) (.const (.int .u64 32)) 106), 121, none⟩,
      ⟨some 7, (.assign (.tmp 17)), 121, none⟩])
    (.seq (.reg [] [⟨some 18, (.move (.tmp 1)), 121, none⟩,
      ⟨some 19, (.binOp .and 121 (.tmp 18) (.const (.int .u64 4294967295)) 121), 121, none⟩,
      ⟨some 8, (.assign (.tmp 19)), 121, none⟩])
    (.seq (.reg [] [⟨some 20, (.move (.tmp 1)), 121, none⟩,
      ⟨some 21, (.binOp .shr 121 (.tmp 20) (.const (.int .u64 32)) 106), 121, none⟩,
      ⟨some 9, (.assign (.tmp 21)), 121, none⟩])
    (.seq (.reg [] [⟨some 22, (.move (.tmp 6)), 121, none⟩,
      ⟨some 23, (.move (.tmp 8)), 121, none⟩,
      ⟨some 24, (.binOp .mul 121 (.tmp 22) (.tmp 23) 121), 121, none⟩,
      ⟨some 10, (.assign (.tmp 24)), 121, none⟩])
    (.seq (.reg [] [⟨some 25, (.move (.tmp 7)), 121, none⟩,
      ⟨some 26, (.move (.tmp 8)), 121, none⟩,
      ⟨some 27, (.binOp .mul 121 (.tmp 25) (.tmp 26) 121), 121, none⟩,
      ⟨some 28, (.move (.tmp 10)), 121, none⟩,
      ⟨some 29, (.binOp .shr 121 (.tmp 28) (.const (.int .u64 32)) 106), 121, none⟩,
      ⟨some 30, (.binOp .add 121 (.tmp 27) (.tmp 29) 121), 121, none⟩,
      ⟨some 11, (.assign (.tmp 30)), 121, none⟩])
    (.seq (.reg [] [⟨some 31, (.move (.tmp 11)), 121, none⟩,
      ⟨some 32, (.binOp .and 121 (.tmp 31) (.const (.int .u64 4294967295)) 121), 121, none⟩,
      ⟨some 12, (.assign (.tmp 32)), 121, none⟩])
    (.seq (.reg [] [⟨some 33, (.move (.tmp 11)), 121, none⟩,
      ⟨some 34, (.binOp .shr 121 (.tmp 33) (.const (.int .u64 32)) 106), 121, none⟩,
      ⟨some 13, (.assign (.tmp 34)), 121, none⟩])
    (.seq (.reg [] [⟨some 35, (.move (.tmp 12)), 121, none⟩,
      ⟨some 36, (.move (.tmp 6)), 121, none⟩,
      ⟨some 37, (.move (.tmp 9)), 121, none⟩,
      ⟨some 38, (.binOp .mul 121 (.tmp 36) (.tmp 37) 121), 121, none⟩,
      ⟨some 39, (.binOp .add 121 (.tmp 35) (.tmp 38) 121), 121, none⟩,
      ⟨some 12, (.assign (.tmp 39)), 121, none⟩])
    (.seq (.reg [] [⟨some 40, (.move (.tmp 7)), 121, none⟩,
      ⟨some 41, (.move (.tmp 9)), 121, none⟩,
      ⟨some 42, (.binOp .mul 121 (.tmp 40) (.tmp 41) 121), 121, none⟩,
      ⟨some 43, (.move (.tmp 13)), 121, none⟩,
      ⟨some 44, (.binOp .add 121 (.tmp 42) (.tmp 43) 121), 121, none⟩,
      ⟨some 45, (.move (.tmp 12)), 121, none⟩,
      ⟨some 46, (.binOp .shr 121 (.tmp 45) (.const (.int .u64 32)) 106), 121, none⟩,
      ⟨some 47, (.binOp .add 121 (.tmp 44) (.tmp 46) 121), 121, none⟩,
      ⟨some 4, (.assign (.tmp 47)), 121, none⟩])
    (.seq (.reg [] [⟨some 48, (.move (.tmp 0)), 121, none⟩,
      ⟨some 49, (.move (.tmp 1)), 121, none⟩,
      ⟨some 50, (.binOp .mul 121 (.tmp 48) (.tmp 49) 121), 121, none⟩,
      ⟨some 5, (.assign (.tmp 50)), 121, none⟩])
    .ret))))))))))))
theorem C132 {args : List AV} {r : AV} (hn : args.length ≤ 51) (h : vc Try.prog T [] A132 (Fin T [(.tmp 4), (.tmp 5)] r) ⟨envOf 0 args, []⟩) : CallP Try.prog 132 args r :=
  callP_of tok mixed Try.func132 (by kernel_rfl) (by kernel_rfl) (by kernel_rfl : Try.f132.ntmps = 51) (by kernel_rfl : Try.f132.body.bind (strip 51 (fun _ => [])) = some A132) hn h

end Go.Proofs.Ytnpkaemlidifgaa
end
