/- Part 6 of the proof: the value layer and the contracts of the functions that the statement reaches; proved without conditions beyond those each theorem states. -/
import Derived.Test.YtnpkaemlidifgaaProg
import Derived.Test.YtnpkaemlidifgaaV4
import Derived.Test.YtnpkaemlidifgaaV5
set_option linter.unusedSimpArgs false
set_option linter.unusedVariables false

section
/- The table of types of the cut, and that it is right. (written by types.py) -/
set_option maxRecDepth 8000
namespace Go.Proofs.Ytnpkaemlidifgaa
open Go.Abs

def rows : List (Nat × TI) := [
  (2, ⟨1, 8, .int .i64, .raw (.int .i64 0), false⟩),
  (3, ⟨1, 8, .int .i64, .raw (.int .i64 0), false⟩),
  (4, ⟨1, 1, .bool, .raw (.bool false), false⟩),
  (5, ⟨1, 1, .int .u8, .raw (.int .u8 0), false⟩),
  (9, ⟨1, 16, .str, .raw (.string ByteArray.empty), false⟩),
  (12, ⟨1, 8, .int .u64, .raw (.int .u64 0), false⟩),
  (13, ⟨2, 24, .struct [(0, 1, 9), (1, 1, 12)], .agg [.raw (.string ByteArray.empty), .raw (.int .u64 0)], false⟩),
  (21, ⟨1, 4, .int .i32, .raw (.int .i32 0), false⟩),
  (22, ⟨1, 24, .slice 23, .seq 1 [] true, false⟩),
  (23, ⟨1, 24, .slice 3, .seq 1 [] true, false⟩),
  (24, ⟨2, 48, .struct [(0, 1, 23), (1, 1, 23)], .agg [.seq 1 [] true, .seq 1 [] true], false⟩),
  (25, ⟨2, 48, .struct [(0, 1, 23), (1, 1, 23)], .agg [.seq 1 [] true, .seq 1 [] true], false⟩),
  (29, ⟨1, 8, .int .i64, .raw (.int .i64 0), false⟩),
  (38, ⟨4, 80, .struct [(0, 2, 25), (2, 1, 3), (3, 1, 23)], .agg [.seq 1 [] true, .seq 1 [] true, .raw (.int .i64 0), .seq 1 [] true], false⟩),
  (39, ⟨4, 80, .struct [(0, 2, 25), (2, 1, 3), (3, 1, 23)], .agg [.seq 1 [] true, .seq 1 [] true, .raw (.int .i64 0), .seq 1 [] true], false⟩),
  (46, ⟨1, 8, .flat, .raw .nilFunc, false⟩),
  (50, ⟨1, 24, .slice 84, .seq 2 [] true, false⟩),
  (80, ⟨1, 8, .flat, .raw .nilFunc, false⟩),
  (84, ⟨2, 16, .array 2 3, .agg [.raw (.int .i64 0), .raw (.int .i64 0)], true⟩),
  (86, ⟨1, 8, .flat, .raw .nilFunc, false⟩),
  (89, ⟨1, 8, .flat, .raw .nilFunc, false⟩),
  (92, ⟨1, 24, .slice 96, .seq 3 [] true, false⟩),
  (93, ⟨1, 8, .flat, .raw .nilFunc, false⟩),
  (96, ⟨3, 24, .array 3 3, .agg [.raw (.int .i64 0), .raw (.int .i64 0), .raw (.int .i64 0)], false⟩),
  (100, ⟨3, 3, .array 3 4, .agg [.raw (.bool false), .raw (.bool false), .raw (.bool false)], false⟩),
  (101, ⟨1, 8, .map 84 4 .two, .raw (.map none), false⟩),
  (102, ⟨9, 9, .array 3 100, .agg [.raw (.bool false), .raw (.bool false), .raw (.bool false), .raw (.bool false), .raw (.bool false), .raw (.bool false), .raw (.bool false), .raw (.bool false), .raw (.bool false)], false⟩),
  (106, ⟨1, 8, .int .u64, .raw (.int .u64 0), false⟩),
  (108, ⟨1, 8, .flat, .raw .nilFunc, false⟩),
  (111, ⟨1, 8, .int .i64, .raw (.int .i64 0), false⟩),
  (119, ⟨1, 4, .int .u32, .raw (.int .u32 0), false⟩),
  (121, ⟨1, 8, .int .u64, .raw (.int .u64 0), false⟩),
  (129, ⟨1, 8, .int .u64, .raw (.int .u64 0), false⟩),
  (133, ⟨1, 8, .flat, .raw (.pointer none), false⟩),
  (141, ⟨1, 8, .flat, .raw (.pointer none), false⟩),
  (155, ⟨1, 8, .flat, .raw (.pointer none), false⟩)]
def T : TT := findT rows
theorem T_2 : T 2 = some ⟨1, 8, .int .i64, .raw (.int .i64 0), false⟩ := by kernel_rfl
theorem T_3 : T 3 = some ⟨1, 8, .int .i64, .raw (.int .i64 0), false⟩ := by kernel_rfl
theorem T_4 : T 4 = some ⟨1, 1, .bool, .raw (.bool false), false⟩ := by kernel_rfl
theorem T_5 : T 5 = some ⟨1, 1, .int .u8, .raw (.int .u8 0), false⟩ := by kernel_rfl
theorem T_22 : T 22 = some ⟨1, 24, .slice 23, .seq 1 [] true, false⟩ := by kernel_rfl
theorem T_23 : T 23 = some ⟨1, 24, .slice 3, .seq 1 [] true, false⟩ := by kernel_rfl
theorem T_24 : T 24 = some ⟨2, 48, .struct [(0, 1, 23), (1, 1, 23)], .agg [.seq 1 [] true, .seq 1 [] true], false⟩ := by kernel_rfl
theorem T_25 : T 25 = some ⟨2, 48, .struct [(0, 1, 23), (1, 1, 23)], .agg [.seq 1 [] true, .seq 1 [] true], false⟩ := by kernel_rfl
theorem T_29 : T 29 = some ⟨1, 8, .int .i64, .raw (.int .i64 0), false⟩ := by kernel_rfl
theorem T_38 : T 38 = some ⟨4, 80, .struct [(0, 2, 25), (2, 1, 3), (3, 1, 23)], .agg [.seq 1 [] true, .seq 1 [] true, .raw (.int .i64 0), .seq 1 [] true], false⟩ := by kernel_rfl
theorem T_39 : T 39 = some ⟨4, 80, .struct [(0, 2, 25), (2, 1, 3), (3, 1, 23)], .agg [.seq 1 [] true, .seq 1 [] true, .raw (.int .i64 0), .seq 1 [] true], false⟩ := by kernel_rfl
theorem T_46 : T 46 = some ⟨1, 8, .flat, .raw .nilFunc, false⟩ := by kernel_rfl
theorem T_50 : T 50 = some ⟨1, 24, .slice 84, .seq 2 [] true, false⟩ := by kernel_rfl
theorem T_80 : T 80 = some ⟨1, 8, .flat, .raw .nilFunc, false⟩ := by kernel_rfl
theorem T_84 : T 84 = some ⟨2, 16, .array 2 3, .agg [.raw (.int .i64 0), .raw (.int .i64 0)], true⟩ := by kernel_rfl
theorem T_86 : T 86 = some ⟨1, 8, .flat, .raw .nilFunc, false⟩ := by kernel_rfl
theorem T_89 : T 89 = some ⟨1, 8, .flat, .raw .nilFunc, false⟩ := by kernel_rfl
theorem T_92 : T 92 = some ⟨1, 24, .slice 96, .seq 3 [] true, false⟩ := by kernel_rfl
theorem T_93 : T 93 = some ⟨1, 8, .flat, .raw .nilFunc, false⟩ := by kernel_rfl
theorem T_96 : T 96 = some ⟨3, 24, .array 3 3, .agg [.raw (.int .i64 0), .raw (.int .i64 0), .raw (.int .i64 0)], false⟩ := by kernel_rfl
theorem T_100 : T 100 = some ⟨3, 3, .array 3 4, .agg [.raw (.bool false), .raw (.bool false), .raw (.bool false)], false⟩ := by kernel_rfl
theorem T_101 : T 101 = some ⟨1, 8, .map 84 4 .two, .raw (.map none), false⟩ := by kernel_rfl
theorem T_102 : T 102 = some ⟨9, 9, .array 3 100, .agg [.raw (.bool false), .raw (.bool false), .raw (.bool false), .raw (.bool false), .raw (.bool false), .raw (.bool false), .raw (.bool false), .raw (.bool false), .raw (.bool false)], false⟩ := by kernel_rfl
theorem T_106 : T 106 = some ⟨1, 8, .int .u64, .raw (.int .u64 0), false⟩ := by kernel_rfl
theorem T_108 : T 108 = some ⟨1, 8, .flat, .raw .nilFunc, false⟩ := by kernel_rfl
theorem tokRows : (rows.all fun r => rowOK Try.prog r.1 r.2) = true := by kernel_rfl
theorem mixed : Try.prog.follows .mixedOrders = true := by kernel_rfl
theorem eqRows : ∀ r ∈ rows.filter fun r => r.2.eq, EqR Try.prog r.1 r.2.zero := by
  intro r hr
  have he : rows.filter (fun r => r.2.eq) = [(84, ⟨2, 16, .array 2 3, .agg [.raw (.int .i64 0), .raw (.int .i64 0)], true⟩)] := rfl
  rw [he] at hr
  simp only [List.mem_cons, List.not_mem_nil, or_false] at hr
  rcases hr with rfl
  · exact eqR_arr2 Try.underlying84 Try.underlying3 (fun w => Try.sizeOf3 w) Try.eqGuardType84
theorem tok : TOK Try.prog T := tok_of rows tokRows fun r hr he => eqRows r (List.mem_filter.2 ⟨hr, he⟩)
attribute [irreducible] T
end Go.Proofs.Ytnpkaemlidifgaa
end

section
/- The values of the program: numbers, words, rules, steps, choices. -/
namespace Go.Proofs.Ytnpkaemlidifgaa
open Go.Abs Go

@[simp] def iv (n : Int) : AV := .raw (.int .i64 n)
@[simp] def bv (b : Bool) : AV := .raw (.bool b)
@[simp] def ints (l : List Int) : AV := .seq 1 (l.map iv) false
structure Rule where
  frm : Int
  to : List Int
  left : List Int
  right : List Int
deriving DecidableEq
instance : Inhabited Rule := ⟨⟨0, [], [], []⟩⟩
@[simp] def ruleV (r : Rule) : AV := .agg [iv r.frm, ints r.to, ints r.left, ints r.right]
@[simp] def rulesV (s : List Rule) : AV := .seq 4 (s.map ruleV) false
structure Step where
  rule : Int
  place : Int
deriving DecidableEq
instance : Inhabited Step := ⟨⟨0, 0⟩⟩
@[simp] def stepV (x : Step) : AV := .agg [iv x.rule, iv x.place]
@[simp] def stepsV (l : List Step) : AV := .seq 2 (l.map stepV) false
structure Choice where
  rule : Int
  place : Int
  ground : Int
deriving DecidableEq
instance : Inhabited Choice := ⟨⟨0, 0, 0⟩⟩
@[simp] def choiceV (x : Choice) : AV := .agg [iv x.rule, iv x.place, iv x.ground]
@[simp] def choicesV (l : List Choice) : AV := .seq 3 (l.map choiceV) false

@[simp] theorem nth_iv (l : List Int) (k : Nat) (h : k < l.length) : nth (l.map iv) k = iv (el l k) := nth_map iv l k h
@[simp] theorem nth_ints (l : List (List Int)) (k : Nat) (h : k < l.length) : nth (l.map ints) k = ints (el l k) := nth_map ints l k h
@[simp] theorem nth_rule (l : List Rule) (k : Nat) (h : k < l.length) : nth (l.map ruleV) k = ruleV (el l k) := nth_map ruleV l k h
@[simp] theorem nth_step (l : List Step) (k : Nat) (h : k < l.length) : nth (l.map stepV) k = stepV (el l k) := nth_map stepV l k h
@[simp] theorem nth_choice (l : List Choice) (k : Nat) (h : k < l.length) : nth (l.map choiceV) k = choiceV (el l k) := nth_map choiceV l k h

@[simp] theorem refsL_bv : ∀ l : List Bool, AV.refsL (l.map bv) = []
  | [] => rfl
  | b :: l => by simp [refsL_bv l]
@[simp] theorem snapL_bv (m : List (Nat × Option Box)) : ∀ l : List Bool, snapL m (l.map bv) = l.map bv
  | [] => rfl
  | b :: l => by simp [snapL_bv m l]
@[simp] theorem snapOKL_bv (m : List (Nat × Option Box)) : ∀ l : List Bool, snapOKL m (l.map bv)
  | [] => trivial
  | b :: l => ⟨trivial, snapOKL_bv m l⟩
@[simp] theorem nth_nil (k : Nat) : nth [] k = .junk := rfl
@[simp] theorem nth_len {α : Type} (f : α → AV) (l : List α) : nth (l.map f) l.length = .junk := by simp [nth, List.getD_eq_getElem?_getD]

attribute [simp] bad T_2 T_3 T_4 T_5 T_23 T_29 T_22
end Go.Proofs.Ytnpkaemlidifgaa
end

section
/- Functions of the cut as the value layer reads them. (written by gen.py) -/
set_option maxRecDepth 20000
namespace Go.Proofs.Ytnpkaemlidifgaa
open Go.Abs Go

def A97 : ACode :=
  (.seq (.reg [] [⟨some 2, (.assign (.const (.slice none 0 0))), 23, none⟩])
    (.seq (.seq (.reg [] [⟨some 6, (.move (.tmp 0)), 23, none⟩,
      ⟨some 7, (.call ⟨(.builtin .len), #[(.tmp 6)], #[23]⟩), 3, none⟩,
      ⟨some 8, (.binOp .lss 3 (.tmp 7) (.const (.int .i64 2)) 3), 4, none⟩])
    (.cond (.tmp 8)
    (.seq (.reg [] [⟨some 9, (.move (.tmp 0)), 23, none⟩,
      ⟨some 2, (.assign (.tmp 9)), 23, none⟩])
    .ret)
    .skip))
    (.seq (.seq (.reg [] [⟨some 3, (.assign (.const (.int .i64 1))), 3, none⟩])
    (.block 0 (.loop (.seq (.seq (.reg [] [⟨some 10, (.move (.tmp 3)), 3, none⟩,
      ⟨some 11, (.move (.tmp 0)), 23, none⟩,
      ⟨some 12, (.call ⟨(.builtin .len), #[(.tmp 11)], #[23]⟩), 3, none⟩,
      ⟨some 13, (.binOp .lss 3 (.tmp 10) (.tmp 12) 3), 4, none⟩])
    (.cond (.tmp 13)
    .skip
    (.exit 0)))
    (.seq (.block 1 (.seq (.draw [] [⟨some 16, (.move (.tmp 0)), 23, none⟩,
      ⟨some 17, (.move (.tmp 3)), 3, none⟩,
      ⟨some 18, (.indexAddr 23 (.tmp 16) (.tmp 17)), 0, none⟩,
      ⟨some 19, (.load 3 (.tmp 18)), 3, none⟩,
      ⟨some 20, (.move (.tmp 0)), 23, none⟩,
      ⟨some 21, (.move (.tmp 3)), 3, none⟩,
      ⟨some 22, (.binOp .sub 3 (.tmp 21) (.const (.int .i64 1)) 3), 3, none⟩,
      ⟨some 23, (.indexAddr 23 (.tmp 20) (.tmp 22)), 0, none⟩,
      ⟨some 24, (.load 3 (.tmp 23)), 3, none⟩,
      ⟨some 25, (.binOp .eql 3 (.tmp 19) (.tmp 24) 3), 4, none⟩] [(0, 1), (0, 4), (1, 4), (2, 4), (3, 4), (0, 5), (1, 5), (2, 5), (3, 5), (4, 5), (0, 6), (1, 6), (2, 6), (3, 6), (4, 6), (0, 7), (1, 7), (2, 7), (3, 7), (0, 8), (1, 8), (2, 8), (3, 8)])
    (.cond (.tmp 25)
    (.seq (.reg [] [⟨some 26, (.move (.tmp 0)), 23, none⟩,
      ⟨some 27, (.move (.tmp 3)), 3, none⟩,
      ⟨some 28, (.slice 23 (.tmp 26) (some (.tmp 27)) none none), 23, none⟩,
      ⟨some 4, (.assign (.tmp 28)), 23, none⟩])
    (.seq (.seq (.reg [] [⟨some 5, (.assign (.const (.int .i64 1))), 3, none⟩])
    (.block 2 (.loop (.seq (.seq (.reg [] [⟨some 29, (.move (.tmp 5)), 3, none⟩,
      ⟨some 30, (.move (.tmp 4)), 23, none⟩,
      ⟨some 31, (.call ⟨(.builtin .len), #[(.tmp 30)], #[23]⟩), 3, none⟩,
      ⟨some 32, (.binOp .lss 3 (.tmp 29) (.tmp 31) 3), 4, none⟩])
    (.cond (.tmp 32)
    .skip
    (.exit 2)))
    (.seq (.block 3 (.seq (.draw [] [⟨some 35, (.move (.tmp 4)), 23, none⟩,
      ⟨some 36, (.move (.tmp 5)), 3, none⟩,
      ⟨some 37, (.indexAddr 23 (.tmp 35) (.tmp 36)), 0, none⟩,
      ⟨some 38, (.load 3 (.tmp 37)), 3, none⟩,
      ⟨some 39, (.move (.tmp 4)), 23, none⟩,
      ⟨some 40, (.move (.tmp 5)), 3, none⟩,
      ⟨some 41, (.binOp .sub 3 (.tmp 40) (.const (.int .i64 1)) 3), 3, none⟩,
      ⟨some 42, (.indexAddr 23 (.tmp 39) (.tmp 41)), 0, none⟩,
      ⟨some 43, (.load 3 (.tmp 42)), 3, none⟩,
      ⟨some 44, (.binOp .neq 3 (.tmp 38) (.tmp 43) 3), 4, none⟩] [(0, 1), (0, 4), (1, 4), (2, 4), (3, 4), (0, 5), (1, 5), (2, 5), (3, 5), (4, 5), (0, 6), (1, 6), (2, 6), (3, 6), (4, 6), (0, 7), (1, 7), (2, 7), (3, 7), (0, 8), (1, 8), (2, 8), (3, 8)])
    (.cond (.tmp 44)
    (.seq (.reg [] [⟨some 45, (.move (.tmp 0)), 23, none⟩,
      ⟨some 46, (.move (.tmp 3)), 3, none⟩,
      ⟨some 47, (.move (.tmp 4)), 23, none⟩,
      ⟨some 48, (.move (.tmp 5)), 3, none⟩,
      ⟨some 49, (.indexAddr 23 (.tmp 47) (.tmp 48)), 0, none⟩,
      ⟨some 50, (.load 3 (.tmp 49)), 3, none⟩,
      ⟨some 51, (.indexAddr 23 (.tmp 45) (.tmp 46)), 0, none⟩,
      ⟨none, (.store 3 (.tmp 51) (.tmp 50)), 0, none⟩])
    (.reg [] [⟨some 52, (.move (.tmp 3)), 3, none⟩,
      ⟨some 53, (.binOp .add 3 (.tmp 52) (.const (.int .i64 1)) 3), 3, none⟩,
      ⟨some 3, (.assign (.tmp 53)), 3, none⟩]))
    .skip)))
    (.reg [] [⟨some 33, (.move (.tmp 5)), 3, none⟩,
      ⟨some 34, (.binOp .add 3 (.tmp 33) (.const (.int .i64 1)) 3), 3, none⟩,
      ⟨some 5, (.assign (.tmp 34)), 3, none⟩]))))))
    (.seq (.reg [] [⟨some 54, (.move (.tmp 0)), 23, none⟩,
      ⟨some 55, (.move (.tmp 3)), 3, none⟩,
      ⟨some 56, (.slice 23 (.tmp 54) (some (.tmp 55)) none none), 23, none⟩,
      ⟨none, (.call ⟨(.builtin .clear), #[(.tmp 56)], #[23]⟩), 0, none⟩])
    (.seq (.reg [] [⟨some 57, (.move (.tmp 0)), 23, none⟩,
      ⟨some 58, (.move (.tmp 3)), 3, none⟩,
      ⟨some 59, (.slice 23 (.tmp 57) none (some (.tmp 58)) none), 23, none⟩,
      ⟨some 2, (.assign (.tmp 59)), 23, none⟩])
    .ret))))
    .skip)))
    (.reg [] [⟨some 14, (.move (.tmp 3)), 3, none⟩,
      ⟨some 15, (.binOp .add 3 (.tmp 14) (.const (.int .i64 1)) 3), 3, none⟩,
      ⟨some 3, (.assign (.tmp 15)), 3, none⟩]))))))
    (.seq (.reg [] [⟨some 60, (.move (.tmp 0)), 23, none⟩,
      ⟨some 2, (.assign (.tmp 60)), 23, none⟩])
    .ret))))
theorem CL97 {pre suf : List AV} {sz : Nat} {els els' : List AV} {r : LRet} (hn : (pre ++ .sl lid 0 0 els.length :: suf).length ≤ 61) (h : vc Try.prog T [] A97 (FinL T [(.tmp 2)] sz r els') ⟨envOf 0 (pre ++ .sl lid 0 0 els.length :: suf), [(lid, some ⟨sz, els, 0, false⟩)]⟩) : CallL Try.prog 97 pre sz els suf r els' :=
  callL_of tok mixed Try.func97 (by kernel_rfl) (by kernel_rfl) (by kernel_rfl : Try.f97.ntmps = 61) (by kernel_rfl : Try.f97.body.bind (strip 61 (fun _ => [])) = some A97) hn h
def A94 : ACode :=
  (.seq (.reg [] [⟨some 1, (.box 23 (.tmp 0)), 0, none⟩,
      ⟨some 2, (.assign (.const .nilFunc)), 94, none⟩])
    (.seq (.reg [] [⟨some 3, (.makeFunc (.func 103) #[] #[(.tmp 1)]), 93, none⟩,
      ⟨some 2, (.assign (.tmp 3)), 94, none⟩])
    .ret))
theorem C94 {args : List AV} {r : AV} (hn : args.length ≤ 4) (h : vc Try.prog T [] A94 (Fin T [(.tmp 2)] r) ⟨envOf 0 args, []⟩) : CallP Try.prog 94 args r :=
  callP_of tok mixed Try.func94 (by kernel_rfl) (by kernel_rfl) (by kernel_rfl : Try.f94.ntmps = 4) (by kernel_rfl : Try.f94.body.bind (strip 4 (fun _ => [])) = some A94) hn h
def A21 : ACode :=
  (.seq (.reg [] [⟨some 4, (.box 25 (.tmp 1)), 0, none⟩,
      ⟨some 6, (.assign (.const (.int .i64 0))), 3, none⟩,
      ⟨some 7, (.assign (.const (.bool false))), 4, none⟩,
      ⟨some 8, (.assign (.const (.int .i64 0))), 29, none⟩])
    (.seq (.seq (.reg [] [⟨some 12, (.move (.tmp 0)), 22, none⟩,
      ⟨some 13, (.load 25 (.tmp 4)), 25, none⟩,
      ⟨some 14, (.move (.tmp 2)), 3, none⟩,
      ⟨some 15, (.buildSlice 23 1 #[(0, (.tmp 14))]), 23, none⟩,
      ⟨some 16, (.call ⟨(.value (.func 59)), #[(.tmp 12), (.tmp 13), (.tmp 15)], #[22, 25, 23]⟩), 29, none⟩,
      ⟨some 9, (.assign (.tmp 16)), 29, none⟩])
    (.seq (.reg [] [⟨some 17, (.move (.tmp 9)), 29, none⟩,
      ⟨some 18, (.binOp .neq 29 (.tmp 17) (.const (.int .i64 0)) 29), 4, none⟩])
    (.cond (.tmp 18)
    (.seq (.reg [] [⟨some 19, (.move (.tmp 9)), 29, none⟩,
      ⟨some 6, (.assign (.const (.int .i64 0))), 3, none⟩,
      ⟨some 7, (.assign (.const (.bool false))), 4, none⟩,
      ⟨some 8, (.assign (.tmp 19)), 29, none⟩])
    .ret)
    .skip)))
    (.seq (.reg [] [⟨some 21, (.move (.tmp 0)), 22, none⟩,
      ⟨some 22, (.load 25 (.tmp 4)), 25, none⟩,
      ⟨some 23, (.move (.tmp 2)), 3, none⟩,
      ⟨some 24, (.call ⟨(.value (.func 60)), #[(.tmp 21), (.tmp 22), (.tmp 23)], #[22, 25, 3]⟩), 69, none⟩,
      ⟨some 20, (.move (.tmp 24)), 69, none⟩,
      ⟨some 25, (.extract (.tmp 20) 0), 23, none⟩,
      ⟨some 26, (.extract (.tmp 20) 1), 4, none⟩,
      ⟨some 10, (.assign (.tmp 25)), 23, none⟩,
      ⟨some 11, (.assign (.tmp 26)), 4, none⟩])
    (.seq (.seq (.reg [] [⟨some 27, (.move (.tmp 11)), 4, none⟩,
      ⟨some 28, (.unOp .not 4 (.tmp 27)), 4, none⟩])
    (.cond (.tmp 28)
    (.seq (.reg [] [⟨some 6, (.assign (.const (.int .i64 0))), 3, none⟩,
      ⟨some 7, (.assign (.const (.bool false))), 4, none⟩,
      ⟨some 8, (.assign (.const (.int .i64 0))), 29, none⟩])
    .ret)
    .skip))
    (.seq (.reg [] [⟨some 29, (.load 25 (.tmp 4)), 25, none⟩,
      ⟨some 30, (.move (.tmp 10)), 23, none⟩,
      ⟨some 31, (.call ⟨(.value (.func 61)), #[(.tmp 29), (.tmp 30)], #[25, 23]⟩), 3, none⟩,
      ⟨some 6, (.assign (.tmp 31)), 3, none⟩,
      ⟨some 7, (.assign (.const (.bool true))), 4, none⟩,
      ⟨some 8, (.assign (.const (.int .i64 0))), 29, none⟩])
    .ret)))))
theorem C21 {args : List AV} {r : AV} (hn : args.length ≤ 32) (h : vc Try.prog T [] A21 (Fin T [(.tmp 6), (.tmp 7), (.tmp 8)] r) ⟨envOf 0 args, []⟩) : CallP Try.prog 21 args r :=
  callP_of tok mixed Try.func21 (by kernel_rfl) (by kernel_rfl) (by kernel_rfl : Try.f21.ntmps = 32) (by kernel_rfl : Try.f21.body.bind (strip 32 (fun _ => [])) = some A21) hn h
def A23 : ACode :=
  (.seq (.reg [] [⟨some 4, (.assign (.const (.int .i64 0))), 3, none⟩,
      ⟨some 5, (.assign (.const (.int .i64 0))), 29, none⟩])
    (.seq (.seq (.reg [] [⟨some 7, (.move (.tmp 0)), 22, none⟩,
      ⟨some 8, (.move (.tmp 1)), 3, none⟩,
      ⟨some 9, (.buildSlice 23 1 #[(0, (.tmp 8))]), 23, none⟩,
      ⟨some 10, (.call ⟨(.value (.func 65)), #[(.tmp 7), (.tmp 9)], #[22, 23]⟩), 29, none⟩,
      ⟨some 6, (.assign (.tmp 10)), 29, none⟩])
    (.seq (.reg [] [⟨some 11, (.move (.tmp 6)), 29, none⟩,
      ⟨some 12, (.binOp .neq 29 (.tmp 11) (.const (.int .i64 0)) 29), 4, none⟩])
    (.cond (.tmp 12)
    (.seq (.reg [] [⟨some 13, (.move (.tmp 6)), 29, none⟩,
      ⟨some 4, (.assign (.const (.int .i64 0))), 3, none⟩,
      ⟨some 5, (.assign (.tmp 13)), 29, none⟩])
    .ret)
    .skip)))
    (.seq (.reg [] [⟨some 14, (.move (.tmp 0)), 22, none⟩,
      ⟨some 15, (.move (.tmp 1)), 3, none⟩,
      ⟨some 16, (.call ⟨(.value (.func 67)), #[(.tmp 14), (.tmp 15)], #[22, 3]⟩), 23, none⟩,
      ⟨some 17, (.call ⟨(.value (.func 66)), #[(.tmp 16)], #[23]⟩), 3, none⟩,
      ⟨some 4, (.assign (.tmp 17)), 3, none⟩,
      ⟨some 5, (.assign (.const (.int .i64 0))), 29, none⟩])
    .ret)))
theorem C23 {args : List AV} {r : AV} (hn : args.length ≤ 18) (h : vc Try.prog T [] A23 (Fin T [(.tmp 4), (.tmp 5)] r) ⟨envOf 0 args, []⟩) : CallP Try.prog 23 args r :=
  callP_of tok mixed Try.func23 (by kernel_rfl) (by kernel_rfl) (by kernel_rfl : Try.f23.ntmps = 18) (by kernel_rfl : Try.f23.body.bind (strip 18 (fun _ => [])) = some A23) hn h
def A27 : ACode :=
  (.seq (.reg [] [⟨some 1, (.box 25 (.tmp 0)), 0, none⟩,
      ⟨some 2, (.assign (.const (.int .i64 0))), 29, none⟩])
    (.seq (.seq (.reg [] [⟨some 7, (.fieldAddr 25 (.tmp 1) 0), 0, none⟩,
      ⟨some 8, (.load 23 (.tmp 7)), 23, none⟩,
      ⟨some 9, (.call ⟨(.builtin .len), #[(.tmp 8)], #[23]⟩), 3, none⟩,
      ⟨some 10, (.call ⟨(.value (.func 72)), #[(.tmp 9), (.const (.int .i64 1)), (.const (.int .i64 16))], #[3, 3, 3]⟩), 4, none⟩,
      ⟨some 11, (.unOp .not 4 (.tmp 10)), 4, none⟩,
      ⟨some 12, (.move (.tmp 11)), 4, none⟩,
      ⟨some 13, (.fieldAddr 25 (.tmp 1) 1), 0, some (12, false)⟩,
      ⟨some 14, (.load 23 (.tmp 13)), 23, some (12, false)⟩,
      ⟨some 15, (.call ⟨(.builtin .len), #[(.tmp 14)], #[23]⟩), 3, some (12, false)⟩,
      ⟨some 16, (.binOp .gtr 3 (.tmp 15) (.const (.int .i64 6)) 3), 4, some (12, false)⟩,
      ⟨some 17, (.pick (.tmp 12) (.const (.bool true)) (.tmp 16)), 4, none⟩])
    (.cond (.tmp 17)
    (.seq (.reg [] [⟨some 2, (.assign (.const (.int .i64 3))), 29, none⟩])
    .ret)
    .skip))
    (.seq (.seq (.reg [] [⟨some 18, (.fieldAddr 25 (.tmp 1) 0), 0, none⟩,
      ⟨some 19, (.load 23 (.tmp 18)), 23, none⟩,
      ⟨some 20, (.indexAddr 23 (.tmp 19) (.const (.int .i64 0))), 0, none⟩,
      ⟨some 21, (.load 3 (.tmp 20)), 3, none⟩,
      ⟨some 22, (.binOp .neq 3 (.tmp 21) (.const (.int .i64 (-1))) 3), 4, none⟩])
    (.cond (.tmp 22)
    (.seq (.reg [] [⟨some 2, (.assign (.const (.int .i64 1))), 29, none⟩])
    .ret)
    .skip))
    (.seq (.seq (.reg [] [⟨some 23, (.fieldAddr 25 (.tmp 1) 0), 0, none⟩,
      ⟨some 24, (.load 23 (.tmp 23)), 23, none⟩,
      ⟨some 25, (.call ⟨(.builtin .len), #[(.tmp 24)], #[23]⟩), 3, none⟩,
      ⟨some 26, (.move (.const (.int .i64 0))), 3, none⟩])
    (.block 0 (.loop (.seq (.reg [] [⟨some 27, (.binOp .lss 3 (.tmp 26) (.tmp 25) 3), 0, none⟩])
    (.seq (.cond (.tmp 27)
    .skip
    (.exit 0))
    (.seq (.block 1 (.seq (.reg [] [⟨some 28, (.move (.tmp 26)), 3, none⟩,
      ⟨some 29, (.indexAddr 23 (.tmp 24) (.tmp 26)), 0, none⟩,
      ⟨some 30, (.load 3 (.tmp 29)), 3, none⟩,
      ⟨some 3, (.assign (.tmp 28)), 3, none⟩,
      ⟨some 4, (.assign (.tmp 30)), 3, none⟩])
    (.seq (.reg [] [⟨some 31, (.move (.tmp 3)), 3, none⟩,
      ⟨some 32, (.binOp .gtr 3 (.tmp 31) (.const (.int .i64 0)) 3), 4, none⟩,
      ⟨some 33, (.move (.tmp 32)), 4, none⟩,
      ⟨some 34, (.move (.tmp 4)), 3, some (33, true)⟩,
      ⟨some 35, (.move (.tmp 3)), 3, some (33, true)⟩,
      ⟨some 36, (.binOp .sub 3 (.tmp 35) (.const (.int .i64 1)) 3), 3, some (33, true)⟩,
      ⟨some 37, (.call ⟨(.value (.func 72)), #[(.tmp 34), (.const (.int .i64 0)), (.tmp 36)], #[3, 3, 3]⟩), 4, some (33, true)⟩,
      ⟨some 38, (.unOp .not 4 (.tmp 37)), 4, some (33, true)⟩,
      ⟨some 39, (.pick (.tmp 33) (.tmp 38) (.const (.bool false))), 4, none⟩])
    (.cond (.tmp 39)
    (.seq (.reg [] [⟨some 2, (.assign (.const (.int .i64 1))), 29, none⟩])
    .ret)
    .skip))))
    (.reg [] [⟨some 40, (.binOp .add 3 (.tmp 26) (.const (.int .i64 1)) 3), 3, none⟩,
      ⟨some 26, (.move (.tmp 40)), 3, none⟩])))))))
    (.seq (.seq (.reg [] [⟨some 41, (.fieldAddr 25 (.tmp 1) 1), 0, none⟩,
      ⟨some 42, (.load 23 (.tmp 41)), 23, none⟩,
      ⟨some 43, (.call ⟨(.builtin .len), #[(.tmp 42)], #[23]⟩), 3, none⟩,
      ⟨some 44, (.move (.const (.int .i64 0))), 3, none⟩])
    (.block 2 (.loop (.seq (.reg [] [⟨some 45, (.binOp .lss 3 (.tmp 44) (.tmp 43) 3), 0, none⟩])
    (.seq (.cond (.tmp 45)
    .skip
    (.exit 2))
    (.seq (.block 3 (.seq (.reg [] [⟨some 46, (.indexAddr 23 (.tmp 42) (.tmp 44)), 0, none⟩,
      ⟨some 47, (.load 3 (.tmp 46)), 3, none⟩,
      ⟨some 6, (.assign (.tmp 47)), 3, none⟩])
    (.seq (.reg [] [⟨some 48, (.move (.tmp 6)), 3, none⟩,
      ⟨some 49, (.fieldAddr 25 (.tmp 1) 0), 0, none⟩,
      ⟨some 50, (.load 23 (.tmp 49)), 23, none⟩,
      ⟨some 51, (.call ⟨(.builtin .len), #[(.tmp 50)], #[23]⟩), 3, none⟩,
      ⟨some 52, (.binOp .sub 3 (.tmp 51) (.const (.int .i64 1)) 3), 3, none⟩,
      ⟨some 53, (.call ⟨(.value (.func 72)), #[(.tmp 48), (.const (.int .i64 0)), (.tmp 52)], #[3, 3, 3]⟩), 4, none⟩,
      ⟨some 54, (.unOp .not 4 (.tmp 53)), 4, none⟩])
    (.cond (.tmp 54)
    (.seq (.reg [] [⟨some 2, (.assign (.const (.int .i64 1))), 29, none⟩])
    .ret)
    .skip))))
    (.reg [] [⟨some 55, (.binOp .add 3 (.tmp 44) (.const (.int .i64 1)) 3), 3, none⟩,
      ⟨some 44, (.move (.tmp 55)), 3, none⟩])))))))
    (.seq (.reg [] [⟨some 2, (.assign (.const (.int .i64 0))), 29, none⟩])
    .ret))))))
theorem C27 {args : List AV} {r : AV} (hn : args.length ≤ 56) (h : vc Try.prog T [] A27 (Fin T [(.tmp 2)] r) ⟨envOf 0 args, []⟩) : CallP Try.prog 27 args r :=
  callP_of tok mixed Try.func27 (by kernel_rfl) (by kernel_rfl) (by kernel_rfl : Try.f27.ntmps = 56) (by kernel_rfl : Try.f27.body.bind (strip 56 (fun _ => [])) = some A27) hn h
def A29 : ACode :=
  (.seq (.reg [] [⟨some 6, (.assign (.const (.int .i64 0))), 3, none⟩,
      ⟨some 7, (.assign (.const (.int .i64 0))), 29, none⟩])
    (.seq (.seq (.reg [] [⟨some 11, (.move (.tmp 0)), 22, none⟩,
      ⟨some 12, (.call ⟨(.value (.func 34)), #[(.tmp 11)], #[22]⟩), 29, none⟩,
      ⟨some 8, (.assign (.tmp 12)), 29, none⟩])
    (.seq (.reg [] [⟨some 13, (.move (.tmp 8)), 29, none⟩,
      ⟨some 14, (.binOp .neq 29 (.tmp 13) (.const (.int .i64 0)) 29), 4, none⟩])
    (.cond (.tmp 14)
    (.seq (.reg [] [⟨some 15, (.move (.tmp 8)), 29, none⟩,
      ⟨some 6, (.assign (.const (.int .i64 0))), 3, none⟩,
      ⟨some 7, (.assign (.tmp 15)), 29, none⟩])
    .ret)
    .skip)))
    (.seq (.seq (.reg [] [⟨some 16, (.move (.tmp 1)), 3, none⟩,
      ⟨some 17, (.move (.tmp 0)), 22, none⟩,
      ⟨some 18, (.call ⟨(.builtin .len), #[(.tmp 17)], #[22]⟩), 3, none⟩,
      ⟨some 19, (.binOp .sub 3 (.tmp 18) (.const (.int .i64 1)) 3), 3, none⟩,
      ⟨some 20, (.call ⟨(.value (.func 72)), #[(.tmp 16), (.const (.int .i64 0)), (.tmp 19)], #[3, 3, 3]⟩), 4, none⟩,
      ⟨some 21, (.unOp .not 4 (.tmp 20)), 4, none⟩,
      ⟨some 22, (.move (.tmp 21)), 4, none⟩,
      ⟨some 23, (.move (.tmp 2)), 3, some (22, false)⟩,
      ⟨some 24, (.move (.tmp 0)), 22, some (22, false)⟩,
      ⟨some 25, (.call ⟨(.builtin .len), #[(.tmp 24)], #[22]⟩), 3, some (22, false)⟩,
      ⟨some 26, (.binOp .sub 3 (.tmp 25) (.const (.int .i64 1)) 3), 3, some (22, false)⟩,
      ⟨some 27, (.call ⟨(.value (.func 72)), #[(.tmp 23), (.const (.int .i64 0)), (.tmp 26)], #[3, 3, 3]⟩), 4, some (22, false)⟩,
      ⟨some 28, (.unOp .not 4 (.tmp 27)), 4, some (22, false)⟩,
      ⟨some 29, (.pick (.tmp 22) (.const (.bool true)) (.tmp 28)), 4, none⟩])
    (.cond (.tmp 29)
    (.seq (.reg [] [⟨some 6, (.assign (.const (.int .i64 0))), 3, none⟩,
      ⟨some 7, (.assign (.const (.int .i64 4))), 29, none⟩])
    .ret)
    .skip))
    (.seq (.reg [] [⟨some 9, (.assign (.const (.int .i64 0))), 3, none⟩])
    (.seq (.seq (.reg [] [⟨some 30, (.move (.tmp 0)), 22, none⟩,
      ⟨some 31, (.indexAddr 22 (.tmp 30) (.const (.int .i64 0))), 0, none⟩,
      ⟨some 32, (.load 23 (.tmp 31)), 23, none⟩,
      ⟨some 33, (.call ⟨(.builtin .len), #[(.tmp 32)], #[23]⟩), 3, none⟩,
      ⟨some 34, (.move (.const (.int .i64 0))), 3, none⟩])
    (.block 0 (.loop (.seq (.reg [] [⟨some 35, (.binOp .lss 3 (.tmp 34) (.tmp 33) 3), 0, none⟩])
    (.seq (.cond (.tmp 35)
    .skip
    (.exit 0))
    (.seq (.block 1 (.seq (.reg [] [⟨some 36, (.move (.tmp 34)), 3, none⟩,
      ⟨some 10, (.assign (.tmp 36)), 3, none⟩])
    (.seq (.draw [] [⟨some 37, (.move (.tmp 0)), 22, none⟩,
      ⟨some 38, (.move (.tmp 1)), 3, none⟩,
      ⟨some 39, (.indexAddr 22 (.tmp 37) (.tmp 38)), 0, none⟩,
      ⟨some 40, (.load 23 (.tmp 39)), 23, none⟩,
      ⟨some 41, (.move (.tmp 10)), 3, none⟩,
      ⟨some 42, (.indexAddr 23 (.tmp 40) (.tmp 41)), 0, none⟩,
      ⟨some 43, (.load 3 (.tmp 42)), 3, none⟩,
      ⟨some 44, (.move (.tmp 0)), 22, none⟩,
      ⟨some 45, (.move (.tmp 2)), 3, none⟩,
      ⟨some 46, (.indexAddr 22 (.tmp 44) (.tmp 45)), 0, none⟩,
      ⟨some 47, (.load 23 (.tmp 46)), 23, none⟩,
      ⟨some 48, (.move (.tmp 10)), 3, none⟩,
      ⟨some 49, (.indexAddr 23 (.tmp 47) (.tmp 48)), 0, none⟩,
      ⟨some 50, (.load 3 (.tmp 49)), 3, none⟩,
      ⟨some 51, (.binOp .neq 3 (.tmp 43) (.tmp 50) 3), 4, none⟩] [(0, 1), (0, 4), (1, 4), (2, 4), (3, 4), (0, 7), (1, 7), (2, 7), (3, 7), (4, 7), (5, 7), (6, 7), (0, 8), (1, 8), (2, 8), (3, 8), (4, 8), (5, 8), (6, 8), (7, 8), (0, 9), (1, 9), (2, 9), (3, 9), (4, 9), (5, 9), (6, 9), (0, 10), (1, 10), (2, 10), (3, 10), (4, 10), (5, 10), (6, 10), (0, 11), (1, 11), (2, 11), (3, 11), (4, 11), (5, 11), (6, 11), (7, 11), (8, 11), (9, 11), (10, 11), (0, 12), (1, 12), (2, 12), (3, 12), (4, 12), (5, 12), (6, 12), (0, 13), (1, 13), (2, 13), (3, 13), (4, 13), (5, 13), (6, 13)])
    (.cond (.tmp 51)
    (.reg [] [⟨some 52, (.move (.tmp 9)), 3, none⟩,
      ⟨some 53, (.binOp .add 3 (.tmp 52) (.const (.int .i64 1)) 3), 3, none⟩,
      ⟨some 9, (.assign (.tmp 53)), 3, none⟩])
    .skip))))
    (.reg [] [⟨some 54, (.binOp .add 3 (.tmp 34) (.const (.int .i64 1)) 3), 3, none⟩,
      ⟨some 34, (.move (.tmp 54)), 3, none⟩])))))))
    (.seq (.reg [] [⟨some 55, (.move (.tmp 9)), 3, none⟩,
      ⟨some 6, (.assign (.tmp 55)), 3, none⟩,
      ⟨some 7, (.assign (.const (.int .i64 0))), 29, none⟩])
    .ret))))))
theorem C29 {args : List AV} {r : AV} (hn : args.length ≤ 56) (h : vc Try.prog T [] A29 (Fin T [(.tmp 6), (.tmp 7)] r) ⟨envOf 0 args, []⟩) : CallP Try.prog 29 args r :=
  callP_of tok mixed Try.func29 (by kernel_rfl) (by kernel_rfl) (by kernel_rfl : Try.f29.ntmps = 56) (by kernel_rfl : Try.f29.body.bind (strip 56 (fun _ => [])) = some A29) hn h
def A34 : ACode :=
  (.seq (.reg [] [⟨some 2, (.assign (.const (.int .i64 0))), 29, none⟩])
    (.seq (.seq (.reg [] [⟨some 5, (.move (.tmp 0)), 22, none⟩,
      ⟨some 6, (.call ⟨(.builtin .len), #[(.tmp 5)], #[22]⟩), 3, none⟩,
      ⟨some 7, (.call ⟨(.value (.func 72)), #[(.tmp 6), (.const (.int .i64 1)), (.const (.int .i64 6))], #[3, 3, 3]⟩), 4, none⟩,
      ⟨some 8, (.unOp .not 4 (.tmp 7)), 4, none⟩,
      ⟨some 9, (.move (.tmp 8)), 4, none⟩,
      ⟨some 10, (.move (.tmp 0)), 22, some (9, false)⟩,
      ⟨some 11, (.indexAddr 22 (.tmp 10) (.const (.int .i64 0))), 0, some (9, false)⟩,
      ⟨some 12, (.load 23 (.tmp 11)), 23, some (9, false)⟩,
      ⟨some 13, (.call ⟨(.builtin .len), #[(.tmp 12)], #[23]⟩), 3, some (9, false)⟩,
      ⟨some 14, (.binOp .gtr 3 (.tmp 13) (.const (.int .i64 6)) 3), 4, some (9, false)⟩,
      ⟨some 15, (.pick (.tmp 9) (.const (.bool true)) (.tmp 14)), 4, none⟩])
    (.cond (.tmp 15)
    (.seq (.reg [] [⟨some 2, (.assign (.const (.int .i64 3))), 29, none⟩])
    .ret)
    .skip))
    (.seq (.seq (.reg [] [⟨some 16, (.move (.tmp 0)), 22, none⟩,
      ⟨some 17, (.call ⟨(.builtin .len), #[(.tmp 16)], #[22]⟩), 3, none⟩,
      ⟨some 18, (.move (.const (.int .i64 0))), 3, none⟩])
    (.block 0 (.loop (.seq (.reg [] [⟨some 19, (.binOp .lss 3 (.tmp 18) (.tmp 17) 3), 0, none⟩])
    (.seq (.cond (.tmp 19)
    .skip
    (.exit 0))
    (.seq (.block 1 (.seq (.reg [] [⟨some 20, (.indexAddr 22 (.tmp 16) (.tmp 18)), 0, none⟩,
      ⟨some 21, (.load 23 (.tmp 20)), 23, none⟩,
      ⟨some 4, (.assign (.tmp 21)), 23, none⟩])
    (.seq (.reg [] [⟨some 22, (.move (.tmp 4)), 23, none⟩,
      ⟨some 23, (.call ⟨(.builtin .len), #[(.tmp 22)], #[23]⟩), 3, none⟩,
      ⟨some 24, (.move (.tmp 0)), 22, none⟩,
      ⟨some 25, (.indexAddr 22 (.tmp 24) (.const (.int .i64 0))), 0, none⟩,
      ⟨some 26, (.load 23 (.tmp 25)), 23, none⟩,
      ⟨some 27, (.call ⟨(.builtin .len), #[(.tmp 26)], #[23]⟩), 3, none⟩,
      ⟨some 28, (.binOp .neq 3 (.tmp 23) (.tmp 27) 3), 4, none⟩,
      ⟨some 29, (.move (.tmp 28)), 4, none⟩,
      ⟨some 30, (.move (.tmp 4)), 23, some (29, false)⟩,
      ⟨some 31, (.call ⟨(.value (.func 69)), #[(.tmp 30), (.func 76)], #[23, 80]⟩), 4, some (29, false)⟩,
      ⟨some 32, (.pick (.tmp 29) (.const (.bool true)) (.tmp 31)), 4, none⟩])
    (.cond (.tmp 32)
    (.seq (.reg [] [⟨some 2, (.assign (.const (.int .i64 1))), 29, none⟩])
    .ret)
    .skip))))
    (.reg [] [⟨some 33, (.binOp .add 3 (.tmp 18) (.const (.int .i64 1)) 3), 3, none⟩,
      ⟨some 18, (.move (.tmp 33)), 3, none⟩])))))))
    (.seq (.reg [] [⟨some 2, (.assign (.const (.int .i64 0))), 29, none⟩])
    .ret))))
theorem C34 {args : List AV} {r : AV} (hn : args.length ≤ 34) (h : vc Try.prog T [] A34 (Fin T [(.tmp 2)] r) ⟨envOf 0 args, []⟩) : CallP Try.prog 34 args r :=
  callP_of tok mixed Try.func34 (by kernel_rfl) (by kernel_rfl) (by kernel_rfl : Try.f34.ntmps = 34) (by kernel_rfl : Try.f34.body.bind (strip 34 (fun _ => [])) = some A34) hn h
def A37 : ACode :=
  (.seq (.reg [] [⟨some 6, (.assign (.const (.bool false))), 4, none⟩,
      ⟨some 7, (.assign (.const (.int .i64 0))), 29, none⟩])
    (.seq (.seq (.reg [] [⟨some 9, (.move (.tmp 0)), 22, none⟩,
      ⟨some 10, (.move (.tmp 1)), 3, none⟩,
      ⟨some 11, (.move (.tmp 2)), 3, none⟩,
      ⟨some 12, (.buildSlice 23 2 #[(0, (.tmp 10)), (1, (.tmp 11))]), 23, none⟩,
      ⟨some 13, (.call ⟨(.value (.func 65)), #[(.tmp 9), (.tmp 12)], #[22, 23]⟩), 29, none⟩,
      ⟨some 8, (.assign (.tmp 13)), 29, none⟩])
    (.seq (.reg [] [⟨some 14, (.move (.tmp 8)), 29, none⟩,
      ⟨some 15, (.binOp .neq 29 (.tmp 14) (.const (.int .i64 0)) 29), 4, none⟩])
    (.cond (.tmp 15)
    (.seq (.reg [] [⟨some 16, (.move (.tmp 8)), 29, none⟩,
      ⟨some 6, (.assign (.const (.bool false))), 4, none⟩,
      ⟨some 7, (.assign (.tmp 16)), 29, none⟩])
    .ret)
    .skip)))
    (.seq (.reg [] [⟨some 17, (.move (.tmp 0)), 22, none⟩,
      ⟨some 18, (.move (.tmp 1)), 3, none⟩,
      ⟨some 19, (.move (.tmp 2)), 3, none⟩,
      ⟨some 20, (.call ⟨(.value (.func 77)), #[(.tmp 17), (.tmp 18), (.tmp 19)], #[22, 3, 3]⟩), 4, none⟩,
      ⟨some 6, (.assign (.tmp 20)), 4, none⟩,
      ⟨some 7, (.assign (.const (.int .i64 0))), 29, none⟩])
    .ret)))
theorem C37 {args : List AV} {r : AV} (hn : args.length ≤ 21) (h : vc Try.prog T [] A37 (Fin T [(.tmp 6), (.tmp 7)] r) ⟨envOf 0 args, []⟩) : CallP Try.prog 37 args r :=
  callP_of tok mixed Try.func37 (by kernel_rfl) (by kernel_rfl) (by kernel_rfl : Try.f37.ntmps = 21) (by kernel_rfl : Try.f37.body.bind (strip 21 (fun _ => [])) = some A37) hn h
def A39 : ACode :=
  (.seq (.reg [] [⟨some 2, (.assign (.const (.slice none 0 0))), 50, none⟩,
      ⟨some 3, (.assign (.const (.int .i64 0))), 29, none⟩])
    (.seq (.seq (.reg [] [⟨some 5, (.move (.tmp 0)), 22, none⟩,
      ⟨some 6, (.call ⟨(.value (.func 34)), #[(.tmp 5)], #[22]⟩), 29, none⟩,
      ⟨some 4, (.assign (.tmp 6)), 29, none⟩])
    (.seq (.reg [] [⟨some 7, (.move (.tmp 4)), 29, none⟩,
      ⟨some 8, (.binOp .neq 29 (.tmp 7) (.const (.int .i64 0)) 29), 4, none⟩])
    (.cond (.tmp 8)
    (.seq (.reg [] [⟨some 9, (.move (.tmp 4)), 29, none⟩,
      ⟨some 2, (.assign (.const (.slice none 0 0))), 50, none⟩,
      ⟨some 3, (.assign (.tmp 9)), 29, none⟩])
    .ret)
    .skip)))
    (.seq (.reg [] [⟨some 10, (.move (.tmp 0)), 22, none⟩,
      ⟨some 11, (.call ⟨(.value (.func 79)), #[(.tmp 10)], #[22]⟩), 50, none⟩,
      ⟨some 2, (.assign (.tmp 11)), 50, none⟩,
      ⟨some 3, (.assign (.const (.int .i64 0))), 29, none⟩])
    .ret)))
theorem C39 {args : List AV} {r : AV} (hn : args.length ≤ 12) (h : vc Try.prog T [] A39 (Fin T [(.tmp 2), (.tmp 3)] r) ⟨envOf 0 args, []⟩) : CallP Try.prog 39 args r :=
  callP_of tok mixed Try.func39 (by kernel_rfl) (by kernel_rfl) (by kernel_rfl : Try.f39.ntmps = 12) (by kernel_rfl : Try.f39.body.bind (strip 12 (fun _ => [])) = some A39) hn h
def A54 : ACode :=
  (.seq (.reg [] [⟨some 6, (.assign (.const (.slice none 0 0))), 22, none⟩,
      ⟨some 7, (.assign (.const (.int .i64 0))), 29, none⟩])
    (.seq (.seq (.reg [] [⟨some 11, (.move (.tmp 0)), 22, none⟩,
      ⟨some 12, (.move (.tmp 1)), 3, none⟩,
      ⟨some 13, (.buildSlice 23 1 #[(0, (.tmp 12))]), 23, none⟩,
      ⟨some 14, (.call ⟨(.value (.func 65)), #[(.tmp 11), (.tmp 13)], #[22, 23]⟩), 29, none⟩,
      ⟨some 8, (.assign (.tmp 14)), 29, none⟩])
    (.seq (.reg [] [⟨some 15, (.move (.tmp 8)), 29, none⟩,
      ⟨some 16, (.binOp .neq 29 (.tmp 15) (.const (.int .i64 0)) 29), 4, none⟩])
    (.cond (.tmp 16)
    (.seq (.reg [] [⟨some 17, (.move (.tmp 8)), 29, none⟩,
      ⟨some 6, (.assign (.const (.slice none 0 0))), 22, none⟩,
      ⟨some 7, (.assign (.tmp 17)), 29, none⟩])
    .ret)
    .skip)))
    (.seq (.seq (.reg [] [⟨some 18, (.move (.tmp 2)), 23, none⟩,
      ⟨some 19, (.call ⟨(.builtin .len), #[(.tmp 18)], #[23]⟩), 3, none⟩,
      ⟨some 20, (.binOp .neq 3 (.tmp 19) (.const (.int .i64 3)) 3), 4, none⟩,
      ⟨some 21, (.move (.tmp 20)), 4, none⟩,
      ⟨some 22, (.move (.tmp 2)), 23, some (21, false)⟩,
      ⟨some 23, (.call ⟨(.value (.func 66)), #[(.tmp 22)], #[23]⟩), 3, some (21, false)⟩,
      ⟨some 24, (.move (.tmp 2)), 23, some (21, false)⟩,
      ⟨some 25, (.call ⟨(.builtin .len), #[(.tmp 24)], #[23]⟩), 3, some (21, false)⟩,
      ⟨some 26, (.binOp .neq 3 (.tmp 23) (.tmp 25) 3), 4, some (21, false)⟩,
      ⟨some 27, (.pick (.tmp 21) (.const (.bool true)) (.tmp 26)), 4, none⟩,
      ⟨some 28, (.move (.tmp 27)), 4, none⟩,
      ⟨some 29, (.move (.tmp 2)), 23, some (28, false)⟩,
      ⟨some 30, (.call ⟨(.value (.func 69)), #[(.tmp 29), (.func 86)], #[23, 80]⟩), 4, some (28, false)⟩,
      ⟨some 31, (.pick (.tmp 28) (.const (.bool true)) (.tmp 30)), 4, none⟩])
    (.cond (.tmp 31)
    (.seq (.reg [] [⟨some 6, (.assign (.const (.slice none 0 0))), 22, none⟩,
      ⟨some 7, (.assign (.const (.int .i64 1))), 29, none⟩])
    .ret)
    .skip))
    (.seq (.reg [] [⟨some 32, (.move (.tmp 0)), 22, none⟩,
      ⟨some 33, (.call ⟨(.value (.func 84)), #[(.tmp 32)], #[22]⟩), 22, none⟩,
      ⟨some 9, (.assign (.tmp 33)), 22, none⟩])
    (.seq (.seq (.reg [] [⟨some 34, (.move (.tmp 9)), 22, none⟩,
      ⟨some 35, (.call ⟨(.builtin .len), #[(.tmp 34)], #[22]⟩), 3, none⟩,
      ⟨some 36, (.move (.const (.int .i64 0))), 3, none⟩])
    (.block 0 (.loop (.seq (.reg [] [⟨some 37, (.binOp .lss 3 (.tmp 36) (.tmp 35) 3), 0, none⟩])
    (.seq (.cond (.tmp 37)
    .skip
    (.exit 0))
    (.seq (.block 1 (.seq (.reg [] [⟨some 38, (.move (.tmp 36)), 3, none⟩,
      ⟨some 10, (.assign (.tmp 38)), 3, none⟩])
    (.draw [] [⟨some 39, (.move (.tmp 9)), 22, none⟩,
      ⟨some 40, (.move (.tmp 10)), 3, none⟩,
      ⟨some 41, (.indexAddr 22 (.tmp 39) (.tmp 40)), 0, none⟩,
      ⟨some 42, (.load 23 (.tmp 41)), 23, none⟩,
      ⟨some 43, (.move (.tmp 1)), 3, none⟩,
      ⟨some 44, (.move (.tmp 2)), 23, none⟩,
      ⟨some 45, (.move (.tmp 9)), 22, none⟩,
      ⟨some 46, (.move (.tmp 10)), 3, none⟩,
      ⟨some 47, (.indexAddr 22 (.tmp 45) (.tmp 46)), 0, none⟩,
      ⟨some 48, (.load 23 (.tmp 47)), 23, none⟩,
      ⟨some 49, (.move (.tmp 1)), 3, none⟩,
      ⟨some 50, (.indexAddr 23 (.tmp 48) (.tmp 49)), 0, none⟩,
      ⟨some 51, (.load 3 (.tmp 50)), 3, none⟩,
      ⟨some 52, (.indexAddr 23 (.tmp 44) (.tmp 51)), 0, none⟩,
      ⟨some 53, (.load 3 (.tmp 52)), 3, none⟩,
      ⟨some 54, (.indexAddr 23 (.tmp 42) (.tmp 43)), 0, none⟩,
      ⟨none, (.store 3 (.tmp 54) (.tmp 53)), 0, none⟩] [(0, 1), (0, 4), (1, 4), (2, 4), (3, 4), (0, 5), (1, 5), (2, 5), (3, 5), (4, 5), (0, 6), (1, 6), (2, 6), (3, 6), (4, 6), (5, 6), (0, 7), (1, 7), (2, 7), (3, 7), (4, 7), (5, 7), (6, 7), (0, 8), (1, 8), (2, 8), (3, 8), (4, 8), (5, 8), (0, 9), (1, 9), (2, 9), (3, 9), (4, 9), (5, 9), (0, 10), (1, 10), (2, 10), (3, 10), (4, 10), (5, 10), (6, 10), (7, 10), (8, 10), (9, 10), (0, 11), (1, 11), (2, 11), (3, 11), (4, 11), (5, 11), (0, 12), (1, 12), (2, 12), (3, 12), (4, 12), (5, 12), (0, 13), (1, 13), (2, 13), (3, 13), (4, 13), (0, 14), (1, 14), (2, 14), (3, 14), (4, 14)])))
    (.reg [] [⟨some 55, (.binOp .add 3 (.tmp 36) (.const (.int .i64 1)) 3), 3, none⟩,
      ⟨some 36, (.move (.tmp 55)), 3, none⟩])))))))
    (.seq (.reg [] [⟨some 56, (.move (.tmp 9)), 22, none⟩,
      ⟨some 6, (.assign (.tmp 56)), 22, none⟩,
      ⟨some 7, (.assign (.const (.int .i64 0))), 29, none⟩])
    .ret))))))
theorem C54 {args : List AV} {r : AV} (hn : args.length ≤ 57) (h : vc Try.prog T [] A54 (Fin T [(.tmp 6), (.tmp 7)] r) ⟨envOf 0 args, []⟩) : CallP Try.prog 54 args r :=
  callP_of tok mixed Try.func54 (by kernel_rfl) (by kernel_rfl) (by kernel_rfl : Try.f54.ntmps = 57) (by kernel_rfl : Try.f54.body.bind (strip 57 (fun _ => [])) = some A54) hn h
def A59 : ACode :=
  (.seq (.reg [] [⟨some 4, (.box 25 (.tmp 1)), 0, none⟩,
      ⟨some 6, (.assign (.const (.int .i64 0))), 29, none⟩])
    (.seq (.seq (.reg [] [⟨some 9, (.move (.tmp 0)), 22, none⟩,
      ⟨some 10, (.call ⟨(.value (.func 34)), #[(.tmp 9)], #[22]⟩), 29, none⟩,
      ⟨some 7, (.assign (.tmp 10)), 29, none⟩])
    (.seq (.reg [] [⟨some 11, (.move (.tmp 7)), 29, none⟩,
      ⟨some 12, (.binOp .neq 29 (.tmp 11) (.const (.int .i64 0)) 29), 4, none⟩])
    (.cond (.tmp 12)
    (.seq (.reg [] [⟨some 13, (.move (.tmp 7)), 29, none⟩,
      ⟨some 6, (.assign (.tmp 13)), 29, none⟩])
    .ret)
    .skip)))
    (.seq (.seq (.reg [] [⟨some 14, (.load 25 (.tmp 4)), 25, none⟩,
      ⟨some 15, (.call ⟨(.value (.func 27)), #[(.tmp 14)], #[25]⟩), 29, none⟩,
      ⟨some 8, (.assign (.tmp 15)), 29, none⟩])
    (.seq (.reg [] [⟨some 16, (.move (.tmp 8)), 29, none⟩,
      ⟨some 17, (.binOp .neq 29 (.tmp 16) (.const (.int .i64 0)) 29), 4, none⟩])
    (.cond (.tmp 17)
    (.seq (.reg [] [⟨some 18, (.move (.tmp 8)), 29, none⟩,
      ⟨some 6, (.assign (.tmp 18)), 29, none⟩])
    .ret)
    .skip)))
    (.seq (.seq (.reg [] [⟨some 19, (.fieldAddr 25 (.tmp 4) 1), 0, none⟩,
      ⟨some 20, (.load 23 (.tmp 19)), 23, none⟩,
      ⟨some 21, (.call ⟨(.builtin .len), #[(.tmp 20)], #[23]⟩), 3, none⟩,
      ⟨some 22, (.move (.tmp 0)), 22, none⟩,
      ⟨some 23, (.call ⟨(.builtin .len), #[(.tmp 22)], #[22]⟩), 3, none⟩,
      ⟨some 24, (.binOp .neq 3 (.tmp 21) (.tmp 23) 3), 4, none⟩])
    (.cond (.tmp 24)
    (.seq (.reg [] [⟨some 6, (.assign (.const (.int .i64 9))), 29, none⟩])
    .ret)
    .skip))
    (.seq (.reg [] [⟨some 25, (.move (.tmp 0)), 22, none⟩,
      ⟨some 26, (.move (.tmp 2)), 23, none⟩,
      ⟨some 27, (.call ⟨(.value (.func 65)), #[(.tmp 25), (.tmp 26)], #[22, 23]⟩), 29, none⟩,
      ⟨some 6, (.assign (.tmp 27)), 29, none⟩])
    .ret)))))
theorem C59 {args : List AV} {r : AV} (hn : args.length ≤ 28) (h : vc Try.prog T [] A59 (Fin T [(.tmp 6)] r) ⟨envOf 0 args, []⟩) : CallP Try.prog 59 args r :=
  callP_of tok mixed Try.func59 (by kernel_rfl) (by kernel_rfl) (by kernel_rfl : Try.f59.ntmps = 28) (by kernel_rfl : Try.f59.body.bind (strip 28 (fun _ => [])) = some A59) hn h
def A61 : ACode :=
  (.seq (.reg [] [⟨some 2, (.box 25 (.tmp 0)), 0, none⟩,
      ⟨some 4, (.assign (.const (.int .i64 0))), 3, none⟩])
    (.seq (.reg [] [⟨some 5, (.assign (.const (.int .i64 0))), 3, none⟩])
    (.seq (.seq (.reg [] [⟨some 6, (.assign (.const (.int .i64 1))), 3, none⟩])
    (.block 0 (.loop (.seq (.seq (.reg [] [⟨some 7, (.move (.tmp 6)), 3, none⟩,
      ⟨some 8, (.move (.tmp 1)), 23, none⟩,
      ⟨some 9, (.call ⟨(.builtin .len), #[(.tmp 8)], #[23]⟩), 3, none⟩,
      ⟨some 10, (.binOp .lss 3 (.tmp 7) (.tmp 9) 3), 4, none⟩])
    (.cond (.tmp 10)
    .skip
    (.exit 0)))
    (.seq (.block 1 (.seq (.draw [] [⟨some 13, (.move (.tmp 1)), 23, none⟩,
      ⟨some 14, (.move (.tmp 6)), 3, none⟩,
      ⟨some 15, (.indexAddr 23 (.tmp 13) (.tmp 14)), 0, none⟩,
      ⟨some 16, (.load 3 (.tmp 15)), 3, none⟩,
      ⟨some 17, (.move (.tmp 1)), 23, none⟩,
      ⟨some 18, (.fieldAddr 25 (.tmp 2) 0), 0, none⟩,
      ⟨some 19, (.load 23 (.tmp 18)), 23, none⟩,
      ⟨some 20, (.move (.tmp 6)), 3, none⟩,
      ⟨some 21, (.indexAddr 23 (.tmp 19) (.tmp 20)), 0, none⟩,
      ⟨some 22, (.load 3 (.tmp 21)), 3, none⟩,
      ⟨some 23, (.indexAddr 23 (.tmp 17) (.tmp 22)), 0, none⟩,
      ⟨some 24, (.load 3 (.tmp 23)), 3, none⟩,
      ⟨some 25, (.binOp .neq 3 (.tmp 16) (.tmp 24) 3), 4, none⟩] [(0, 1), (0, 4), (1, 4), (2, 4), (3, 4), (0, 5), (1, 5), (2, 5), (3, 5), (4, 5), (0, 6), (1, 6), (2, 6), (3, 6), (4, 6), (0, 7), (1, 7), (2, 7), (3, 7), (4, 7), (5, 7), (6, 7), (0, 8), (1, 8), (2, 8), (3, 8), (4, 8), (0, 9), (1, 9), (2, 9), (3, 9), (4, 9), (0, 10), (1, 10), (2, 10), (3, 10), (0, 11), (1, 11), (2, 11), (3, 11)])
    (.cond (.tmp 25)
    (.reg [] [⟨some 26, (.move (.tmp 5)), 3, none⟩,
      ⟨some 27, (.binOp .add 3 (.tmp 26) (.const (.int .i64 1)) 3), 3, none⟩,
      ⟨some 5, (.assign (.tmp 27)), 3, none⟩])
    .skip)))
    (.reg [] [⟨some 11, (.move (.tmp 6)), 3, none⟩,
      ⟨some 12, (.binOp .add 3 (.tmp 11) (.const (.int .i64 1)) 3), 3, none⟩,
      ⟨some 6, (.assign (.tmp 12)), 3, none⟩]))))))
    (.seq (.reg [] [⟨some 28, (.move (.tmp 5)), 3, none⟩,
      ⟨some 4, (.assign (.tmp 28)), 3, none⟩])
    .ret))))
theorem C61 {args : List AV} {r : AV} (hn : args.length ≤ 29) (h : vc Try.prog T [] A61 (Fin T [(.tmp 4)] r) ⟨envOf 0 args, []⟩) : CallP Try.prog 61 args r :=
  callP_of tok mixed Try.func61 (by kernel_rfl) (by kernel_rfl) (by kernel_rfl : Try.f61.ntmps = 29) (by kernel_rfl : Try.f61.body.bind (strip 29 (fun _ => [])) = some A61) hn h
def A65 : ACode :=
  (.seq (.reg [] [⟨some 4, (.assign (.const (.int .i64 0))), 29, none⟩])
    (.seq (.seq (.reg [] [⟨some 8, (.move (.tmp 0)), 22, none⟩,
      ⟨some 9, (.call ⟨(.value (.func 34)), #[(.tmp 8)], #[22]⟩), 29, none⟩,
      ⟨some 5, (.assign (.tmp 9)), 29, none⟩])
    (.seq (.reg [] [⟨some 10, (.move (.tmp 5)), 29, none⟩,
      ⟨some 11, (.binOp .neq 29 (.tmp 10) (.const (.int .i64 0)) 29), 4, none⟩])
    (.cond (.tmp 11)
    (.seq (.reg [] [⟨some 12, (.move (.tmp 5)), 29, none⟩,
      ⟨some 4, (.assign (.tmp 12)), 29, none⟩])
    .ret)
    .skip)))
    (.seq (.seq (.reg [] [⟨some 13, (.move (.tmp 1)), 23, none⟩,
      ⟨some 14, (.call ⟨(.builtin .len), #[(.tmp 13)], #[23]⟩), 3, none⟩,
      ⟨some 15, (.move (.const (.int .i64 0))), 3, none⟩])
    (.block 0 (.loop (.seq (.reg [] [⟨some 16, (.binOp .lss 3 (.tmp 15) (.tmp 14) 3), 0, none⟩])
    (.seq (.cond (.tmp 16)
    .skip
    (.exit 0))
    (.seq (.block 1 (.seq (.reg [] [⟨some 17, (.indexAddr 23 (.tmp 13) (.tmp 15)), 0, none⟩,
      ⟨some 18, (.load 3 (.tmp 17)), 3, none⟩,
      ⟨some 7, (.assign (.tmp 18)), 3, none⟩])
    (.seq (.reg [] [⟨some 19, (.move (.tmp 7)), 3, none⟩,
      ⟨some 20, (.move (.tmp 0)), 22, none⟩,
      ⟨some 21, (.indexAddr 22 (.tmp 20) (.const (.int .i64 0))), 0, none⟩,
      ⟨some 22, (.load 23 (.tmp 21)), 23, none⟩,
      ⟨some 23, (.call ⟨(.builtin .len), #[(.tmp 22)], #[23]⟩), 3, none⟩,
      ⟨some 24, (.binOp .sub 3 (.tmp 23) (.const (.int .i64 1)) 3), 3, none⟩,
      ⟨some 25, (.call ⟨(.value (.func 72)), #[(.tmp 19), (.const (.int .i64 0)), (.tmp 24)], #[3, 3, 3]⟩), 4, none⟩,
      ⟨some 26, (.unOp .not 4 (.tmp 25)), 4, none⟩])
    (.cond (.tmp 26)
    (.seq (.reg [] [⟨some 4, (.assign (.const (.int .i64 4))), 29, none⟩])
    .ret)
    .skip))))
    (.reg [] [⟨some 27, (.binOp .add 3 (.tmp 15) (.const (.int .i64 1)) 3), 3, none⟩,
      ⟨some 15, (.move (.tmp 27)), 3, none⟩])))))))
    (.seq (.reg [] [⟨some 4, (.assign (.const (.int .i64 0))), 29, none⟩])
    .ret))))
theorem C65 {args : List AV} {r : AV} (hn : args.length ≤ 28) (h : vc Try.prog T [] A65 (Fin T [(.tmp 4)] r) ⟨envOf 0 args, []⟩) : CallP Try.prog 65 args r :=
  callP_of tok mixed Try.func65 (by kernel_rfl) (by kernel_rfl) (by kernel_rfl : Try.f65.ntmps = 28) (by kernel_rfl : Try.f65.body.bind (strip 28 (fun _ => [])) = some A65) hn h
def A66 : ACode :=
  (.seq (.reg [] [⟨some 2, (.assign (.const (.int .i64 0))), 3, none⟩])
    (.seq (.reg [] [⟨some 3, (.move (.tmp 0)), 23, none⟩,
      ⟨some 4, (.call ⟨(.value (.func 95)), #[(.tmp 3)], #[23]⟩), 23, none⟩,
      ⟨some 0, (.assign (.tmp 4)), 23, none⟩])
    (.seq (.reg [] [⟨some 5, (.move (.tmp 0)), 23, none⟩,
      ⟨some 6, (.call ⟨(.value (.func 96)), #[(.tmp 5)], #[23]⟩), 0, none⟩])
    (.seq (.reg [] [⟨some 7, (.move (.tmp 0)), 23, none⟩,
      ⟨some 8, (.call ⟨(.value (.func 97)), #[(.tmp 7)], #[23]⟩), 23, none⟩,
      ⟨some 9, (.call ⟨(.builtin .len), #[(.tmp 8)], #[23]⟩), 3, none⟩,
      ⟨some 2, (.assign (.tmp 9)), 3, none⟩])
    .ret))))
theorem C66 {args : List AV} {r : AV} (hn : args.length ≤ 10) (h : vc Try.prog T [] A66 (Fin T [(.tmp 2)] r) ⟨envOf 0 args, []⟩) : CallP Try.prog 66 args r :=
  callP_of tok mixed Try.func66 (by kernel_rfl) (by kernel_rfl) (by kernel_rfl : Try.f66.ntmps = 10) (by kernel_rfl : Try.f66.body.bind (strip 10 (fun _ => [])) = some A66) hn h
def A67 : ACode :=
  (.seq (.reg [] [⟨some 4, (.assign (.const (.slice none 0 0))), 23, none⟩])
    (.seq (.reg [] [⟨some 5, (.assign (.const (.slice none 0 0))), 23, none⟩])
    (.seq (.seq (.reg [] [⟨some 8, (.move (.tmp 0)), 22, none⟩,
      ⟨some 9, (.call ⟨(.builtin .len), #[(.tmp 8)], #[22]⟩), 3, none⟩,
      ⟨some 10, (.move (.const (.int .i64 0))), 3, none⟩])
    (.block 0 (.loop (.seq (.reg [] [⟨some 11, (.binOp .lss 3 (.tmp 10) (.tmp 9) 3), 0, none⟩])
    (.seq (.cond (.tmp 11)
    .skip
    (.exit 0))
    (.seq (.block 1 (.seq (.reg [] [⟨some 12, (.indexAddr 22 (.tmp 8) (.tmp 10)), 0, none⟩,
      ⟨some 13, (.load 23 (.tmp 12)), 23, none⟩,
      ⟨some 7, (.assign (.tmp 13)), 23, none⟩])
    (.reg [] [⟨some 14, (.move (.tmp 5)), 23, none⟩,
      ⟨some 15, (.move (.tmp 7)), 23, none⟩,
      ⟨some 16, (.move (.tmp 1)), 3, none⟩,
      ⟨some 17, (.indexAddr 23 (.tmp 15) (.tmp 16)), 0, none⟩,
      ⟨some 18, (.load 3 (.tmp 17)), 3, none⟩,
      ⟨some 19, (.buildSlice 23 1 #[(0, (.tmp 18))]), 23, none⟩,
      ⟨some 20, (.call ⟨(.builtin .append), #[(.tmp 14), (.tmp 19)], #[23, 23]⟩), 23, none⟩,
      ⟨some 5, (.assign (.tmp 20)), 23, none⟩])))
    (.reg [] [⟨some 21, (.binOp .add 3 (.tmp 10) (.const (.int .i64 1)) 3), 3, none⟩,
      ⟨some 10, (.move (.tmp 21)), 3, none⟩])))))))
    (.seq (.reg [] [⟨some 22, (.move (.tmp 5)), 23, none⟩,
      ⟨some 4, (.assign (.tmp 22)), 23, none⟩])
    .ret))))
theorem C67 {args : List AV} {r : AV} (hn : args.length ≤ 23) (h : vc Try.prog T [] A67 (Fin T [(.tmp 4)] r) ⟨envOf 0 args, []⟩) : CallP Try.prog 67 args r :=
  callP_of tok mixed Try.func67 (by kernel_rfl) (by kernel_rfl) (by kernel_rfl : Try.f67.ntmps = 23) (by kernel_rfl : Try.f67.body.bind (strip 23 (fun _ => [])) = some A67) hn h
def A71 : ACode :=
  (.seq (.reg [] [⟨some 2, (.assign (.const (.bool false))), 4, none⟩])
    (.seq (.reg [] [⟨some 3, (.move (.tmp 0)), 3, none⟩,
      ⟨some 4, (.call ⟨(.value (.func 72)), #[(.tmp 3), (.const (.int .i64 0)), (.const (.int .i64 2))], #[3, 3, 3]⟩), 4, none⟩,
      ⟨some 2, (.assign (.tmp 4)), 4, none⟩])
    .ret))
theorem C71 {args : List AV} {r : AV} (hn : args.length ≤ 5) (h : vc Try.prog T [] A71 (Fin T [(.tmp 2)] r) ⟨envOf 0 args, []⟩) : CallP Try.prog 71 args r :=
  callP_of tok mixed Try.func71 (by kernel_rfl) (by kernel_rfl) (by kernel_rfl : Try.f71.ntmps = 5) (by kernel_rfl : Try.f71.body.bind (strip 5 (fun _ => [])) = some A71) hn h
def A72 : ACode :=
  (.seq (.reg [] [⟨some 6, (.assign (.const (.bool false))), 4, none⟩])
    (.seq (.reg [] [⟨some 7, (.move (.tmp 0)), 3, none⟩,
      ⟨some 8, (.move (.tmp 1)), 3, none⟩,
      ⟨some 9, (.binOp .geq 3 (.tmp 7) (.tmp 8) 3), 4, none⟩,
      ⟨some 10, (.move (.tmp 9)), 4, none⟩,
      ⟨some 11, (.move (.tmp 0)), 3, some (10, true)⟩,
      ⟨some 12, (.move (.tmp 2)), 3, some (10, true)⟩,
      ⟨some 13, (.binOp .leq 3 (.tmp 11) (.tmp 12) 3), 4, some (10, true)⟩,
      ⟨some 14, (.pick (.tmp 10) (.tmp 13) (.const (.bool false))), 4, none⟩,
      ⟨some 6, (.assign (.tmp 14)), 4, none⟩])
    .ret))
theorem C72 {args : List AV} {r : AV} (hn : args.length ≤ 15) (h : vc Try.prog T [] A72 (Fin T [(.tmp 6)] r) ⟨envOf 0 args, []⟩) : CallP Try.prog 72 args r :=
  callP_of tok mixed Try.func72 (by kernel_rfl) (by kernel_rfl) (by kernel_rfl : Try.f72.ntmps = 15) (by kernel_rfl : Try.f72.body.bind (strip 15 (fun _ => [])) = some A72) hn h
def A76 : ACode :=
  (.seq (.reg [] [⟨some 2, (.assign (.const (.bool false))), 4, none⟩])
    (.seq (.reg [] [⟨some 3, (.move (.tmp 0)), 3, none⟩,
      ⟨some 4, (.call ⟨(.value (.func 71)), #[(.tmp 3)], #[3]⟩), 4, none⟩,
      ⟨some 5, (.unOp .not 4 (.tmp 4)), 4, none⟩,
      ⟨some 2, (.assign (.tmp 5)), 4, none⟩])
    .ret))
theorem C76 {args : List AV} {r : AV} (hn : args.length ≤ 6) (h : vc Try.prog T [] A76 (Fin T [(.tmp 2)] r) ⟨envOf 0 args, []⟩) : CallP Try.prog 76 args r :=
  callP_of tok mixed Try.func76 (by kernel_rfl) (by kernel_rfl) (by kernel_rfl : Try.f76.ntmps = 6) (by kernel_rfl : Try.f76.body.bind (strip 6 (fun _ => [])) = some A76) hn h
def A77 : ACode :=
  (.seq (.reg [] [⟨some 6, (.assign (.const (.bool false))), 4, none⟩])
    (.seq (.reg [] [⟨some 11, (.move (.tmp 0)), 22, none⟩,
      ⟨some 12, (.move (.tmp 1)), 3, none⟩,
      ⟨some 13, (.call ⟨(.value (.func 67)), #[(.tmp 11), (.tmp 12)], #[22, 3]⟩), 23, none⟩,
      ⟨some 14, (.move (.tmp 0)), 22, none⟩,
      ⟨some 15, (.move (.tmp 2)), 3, none⟩,
      ⟨some 16, (.call ⟨(.value (.func 67)), #[(.tmp 14), (.tmp 15)], #[22, 3]⟩), 23, none⟩,
      ⟨some 7, (.assign (.tmp 13)), 23, none⟩,
      ⟨some 8, (.assign (.tmp 16)), 23, none⟩])
    (.seq (.seq (.reg [] [⟨some 17, (.move (.tmp 7)), 23, none⟩,
      ⟨some 18, (.call ⟨(.value (.func 66)), #[(.tmp 17)], #[23]⟩), 3, none⟩,
      ⟨some 19, (.binOp .neq 3 (.tmp 18) (.const (.int .i64 2)) 3), 4, none⟩,
      ⟨some 20, (.move (.tmp 19)), 4, none⟩,
      ⟨some 21, (.move (.tmp 8)), 23, some (20, false)⟩,
      ⟨some 22, (.call ⟨(.value (.func 66)), #[(.tmp 21)], #[23]⟩), 3, some (20, false)⟩,
      ⟨some 23, (.binOp .neq 3 (.tmp 22) (.const (.int .i64 2)) 3), 4, some (20, false)⟩,
      ⟨some 24, (.pick (.tmp 20) (.const (.bool true)) (.tmp 23)), 4, none⟩])
    (.cond (.tmp 24)
    (.seq (.reg [] [⟨some 6, (.assign (.const (.bool false))), 4, none⟩])
    .ret)
    .skip))
    (.seq (.reg [] [⟨some 25, (.makeMap 101 none), 101, none⟩,
      ⟨some 9, (.assign (.tmp 25)), 101, none⟩])
    (.seq (.seq (.reg [] [⟨some 26, (.move (.tmp 7)), 23, none⟩,
      ⟨some 27, (.call ⟨(.builtin .len), #[(.tmp 26)], #[23]⟩), 3, none⟩,
      ⟨some 28, (.move (.const (.int .i64 0))), 3, none⟩])
    (.block 0 (.loop (.seq (.reg [] [⟨some 29, (.binOp .lss 3 (.tmp 28) (.tmp 27) 3), 0, none⟩])
    (.seq (.cond (.tmp 29)
    .skip
    (.exit 0))
    (.seq (.block 1 (.seq (.reg [] [⟨some 30, (.move (.tmp 28)), 3, none⟩,
      ⟨some 10, (.assign (.tmp 30)), 3, none⟩])
    (.draw [] [⟨some 31, (.move (.tmp 9)), 101, none⟩,
      ⟨some 32, (.move (.tmp 7)), 23, none⟩,
      ⟨some 33, (.move (.tmp 10)), 3, none⟩,
      ⟨some 34, (.indexAddr 23 (.tmp 32) (.tmp 33)), 0, none⟩,
      ⟨some 35, (.load 3 (.tmp 34)), 3, none⟩,
      ⟨some 36, (.move (.tmp 8)), 23, none⟩,
      ⟨some 37, (.move (.tmp 10)), 3, none⟩,
      ⟨some 38, (.indexAddr 23 (.tmp 36) (.tmp 37)), 0, none⟩,
      ⟨some 39, (.load 3 (.tmp 38)), 3, none⟩,
      ⟨some 40, (.build 84 #[(0, (.tmp 35)), (1, (.tmp 39))]), 84, none⟩,
      ⟨none, (.mapUpdate 101 (.tmp 31) (.tmp 40) (.const (.bool true))), 0, none⟩] [(0, 1), (0, 2), (1, 2), (0, 3), (0, 4), (0, 5), (1, 5), (2, 5), (3, 5), (4, 5), (0, 6), (1, 6), (2, 6), (3, 6), (4, 6), (5, 6), (0, 7), (1, 7), (2, 7), (3, 7), (4, 7), (0, 8), (1, 8), (2, 8), (3, 8), (4, 8), (0, 9)])))
    (.reg [] [⟨some 41, (.binOp .add 3 (.tmp 28) (.const (.int .i64 1)) 3), 3, none⟩,
      ⟨some 28, (.move (.tmp 41)), 3, none⟩])))))))
    (.seq (.reg [] [⟨some 42, (.move (.tmp 9)), 101, none⟩,
      ⟨some 43, (.call ⟨(.builtin .len), #[(.tmp 42)], #[101]⟩), 3, none⟩,
      ⟨some 44, (.binOp .eql 3 (.tmp 43) (.const (.int .i64 4)) 3), 4, none⟩,
      ⟨some 6, (.assign (.tmp 44)), 4, none⟩])
    .ret))))))
theorem C77 {args : List AV} {r : AV} (hn : args.length ≤ 45) (h : vc Try.prog T [] A77 (Fin T [(.tmp 6)] r) ⟨envOf 0 args, []⟩) : CallP Try.prog 77 args r :=
  callP_of tok mixed Try.func77 (by kernel_rfl) (by kernel_rfl) (by kernel_rfl : Try.f77.ntmps = 45) (by kernel_rfl : Try.f77.body.bind (strip 45 (fun _ => [])) = some A77) hn h
def A79 : ACode :=
  (.seq (.reg [] [⟨some 2, (.assign (.const (.slice none 0 0))), 50, none⟩])
    (.seq (.reg [] [⟨some 3, (.assign (.const (.slice none 0 0))), 50, none⟩])
    (.seq (.seq (.reg [] [⟨some 6, (.move (.tmp 0)), 22, none⟩,
      ⟨some 7, (.indexAddr 22 (.tmp 6) (.const (.int .i64 0))), 0, none⟩,
      ⟨some 8, (.load 23 (.tmp 7)), 23, none⟩,
      ⟨some 9, (.call ⟨(.builtin .len), #[(.tmp 8)], #[23]⟩), 3, none⟩,
      ⟨some 10, (.move (.const (.int .i64 0))), 3, none⟩])
    (.block 0 (.loop (.seq (.reg [] [⟨some 11, (.binOp .lss 3 (.tmp 10) (.tmp 9) 3), 0, none⟩])
    (.seq (.cond (.tmp 11)
    .skip
    (.exit 0))
    (.seq (.block 1 (.seq (.reg [] [⟨some 12, (.move (.tmp 10)), 3, none⟩,
      ⟨some 4, (.assign (.tmp 12)), 3, none⟩])
    (.seq (.reg [] [⟨some 13, (.move (.tmp 4)), 3, none⟩,
      ⟨some 14, (.binOp .add 3 (.tmp 13) (.const (.int .i64 1)) 3), 3, none⟩,
      ⟨some 5, (.assign (.tmp 14)), 3, none⟩])
    (.block 2 (.loop (.seq (.seq (.reg [] [⟨some 15, (.move (.tmp 5)), 3, none⟩,
      ⟨some 16, (.move (.tmp 0)), 22, none⟩,
      ⟨some 17, (.indexAddr 22 (.tmp 16) (.const (.int .i64 0))), 0, none⟩,
      ⟨some 18, (.load 23 (.tmp 17)), 23, none⟩,
      ⟨some 19, (.call ⟨(.builtin .len), #[(.tmp 18)], #[23]⟩), 3, none⟩,
      ⟨some 20, (.binOp .lss 3 (.tmp 15) (.tmp 19) 3), 4, none⟩])
    (.cond (.tmp 20)
    .skip
    (.exit 2)))
    (.seq (.block 3 (.seq (.reg [] [⟨some 23, (.move (.tmp 0)), 22, none⟩,
      ⟨some 24, (.move (.tmp 4)), 3, none⟩,
      ⟨some 25, (.move (.tmp 5)), 3, none⟩,
      ⟨some 26, (.call ⟨(.value (.func 77)), #[(.tmp 23), (.tmp 24), (.tmp 25)], #[22, 3, 3]⟩), 4, none⟩])
    (.cond (.tmp 26)
    (.reg [] [⟨some 27, (.move (.tmp 3)), 50, none⟩,
      ⟨some 28, (.move (.tmp 4)), 3, none⟩,
      ⟨some 29, (.move (.tmp 5)), 3, none⟩,
      ⟨some 30, (.build 84 #[(0, (.tmp 28)), (1, (.tmp 29))]), 84, none⟩,
      ⟨some 31, (.buildSlice 50 1 #[(0, (.tmp 30))]), 50, none⟩,
      ⟨some 32, (.call ⟨(.builtin .append), #[(.tmp 27), (.tmp 31)], #[50, 50]⟩), 50, none⟩,
      ⟨some 3, (.assign (.tmp 32)), 50, none⟩])
    .skip)))
    (.reg [] [⟨some 21, (.move (.tmp 5)), 3, none⟩,
      ⟨some 22, (.binOp .add 3 (.tmp 21) (.const (.int .i64 1)) 3), 3, none⟩,
      ⟨some 5, (.assign (.tmp 22)), 3, none⟩]))))))))
    (.reg [] [⟨some 33, (.binOp .add 3 (.tmp 10) (.const (.int .i64 1)) 3), 3, none⟩,
      ⟨some 10, (.move (.tmp 33)), 3, none⟩])))))))
    (.seq (.reg [] [⟨some 34, (.move (.tmp 3)), 50, none⟩,
      ⟨some 2, (.assign (.tmp 34)), 50, none⟩])
    .ret))))
theorem C79 {args : List AV} {r : AV} (hn : args.length ≤ 35) (h : vc Try.prog T [] A79 (Fin T [(.tmp 2)] r) ⟨envOf 0 args, []⟩) : CallP Try.prog 79 args r :=
  callP_of tok mixed Try.func79 (by kernel_rfl) (by kernel_rfl) (by kernel_rfl : Try.f79.ntmps = 35) (by kernel_rfl : Try.f79.body.bind (strip 35 (fun _ => [])) = some A79) hn h
theorem CO79 {args : List AV} {sz : Nat} {els : List AV} (hn : args.length ≤ 35) (h : vc Try.prog T [] A79 (FinO [(.tmp 2)] sz els) ⟨envOf 0 args, []⟩) : CallO Try.prog 79 args sz els :=
  callO_of tok mixed Try.func79 (by kernel_rfl) (by kernel_rfl) (by kernel_rfl : Try.f79.ntmps = 35) (by kernel_rfl : Try.f79.body.bind (strip 35 (fun _ => [])) = some A79) hn h
def A84 : ACode :=
  (.seq (.reg [] [⟨some 2, (.assign (.const (.slice none 0 0))), 22, none⟩])
    (.seq (.reg [] [⟨some 6, (.move (.tmp 0)), 22, none⟩,
      ⟨some 7, (.call ⟨(.builtin .len), #[(.tmp 6)], #[22]⟩), 3, none⟩,
      ⟨some 8, (.makeSlice 22 (.tmp 7) (.tmp 7)), 22, none⟩,
      ⟨some 3, (.assign (.tmp 8)), 22, none⟩])
    (.seq (.seq (.reg [] [⟨some 9, (.move (.tmp 0)), 22, none⟩,
      ⟨some 10, (.call ⟨(.builtin .len), #[(.tmp 9)], #[22]⟩), 3, none⟩,
      ⟨some 11, (.move (.const (.int .i64 0))), 3, none⟩])
    (.block 0 (.loop (.seq (.reg [] [⟨some 12, (.binOp .lss 3 (.tmp 11) (.tmp 10) 3), 0, none⟩])
    (.seq (.cond (.tmp 12)
    .skip
    (.exit 0))
    (.seq (.block 1 (.seq (.reg [] [⟨some 13, (.move (.tmp 11)), 3, none⟩,
      ⟨some 14, (.indexAddr 22 (.tmp 9) (.tmp 11)), 0, none⟩,
      ⟨some 15, (.load 23 (.tmp 14)), 23, none⟩,
      ⟨some 4, (.assign (.tmp 13)), 3, none⟩,
      ⟨some 5, (.assign (.tmp 15)), 23, none⟩])
    (.seq (.reg [] [⟨some 16, (.move (.tmp 3)), 22, none⟩,
      ⟨some 17, (.move (.tmp 4)), 3, none⟩,
      ⟨some 18, (.move (.tmp 5)), 23, none⟩,
      ⟨some 19, (.call ⟨(.builtin .len), #[(.tmp 18)], #[23]⟩), 3, none⟩,
      ⟨some 20, (.makeSlice 23 (.tmp 19) (.tmp 19)), 23, none⟩,
      ⟨some 21, (.indexAddr 22 (.tmp 16) (.tmp 17)), 0, none⟩,
      ⟨none, (.store 23 (.tmp 21) (.tmp 20)), 0, none⟩])
    (.reg [] [⟨some 22, (.move (.tmp 3)), 22, none⟩,
      ⟨some 23, (.move (.tmp 4)), 3, none⟩,
      ⟨some 24, (.indexAddr 22 (.tmp 22) (.tmp 23)), 0, none⟩,
      ⟨some 25, (.load 23 (.tmp 24)), 23, none⟩,
      ⟨some 26, (.move (.tmp 5)), 23, none⟩,
      ⟨some 27, (.call ⟨(.builtin .copy), #[(.tmp 25), (.tmp 26)], #[23, 23]⟩), 3, none⟩]))))
    (.reg [] [⟨some 28, (.binOp .add 3 (.tmp 11) (.const (.int .i64 1)) 3), 3, none⟩,
      ⟨some 11, (.move (.tmp 28)), 3, none⟩])))))))
    (.seq (.reg [] [⟨some 29, (.move (.tmp 3)), 22, none⟩,
      ⟨some 2, (.assign (.tmp 29)), 22, none⟩])
    .ret))))
def A86 : ACode :=
  (.seq (.reg [] [⟨some 2, (.assign (.const (.bool false))), 4, none⟩])
    (.seq (.reg [] [⟨some 3, (.move (.tmp 0)), 3, none⟩,
      ⟨some 4, (.call ⟨(.value (.func 71)), #[(.tmp 3)], #[3]⟩), 4, none⟩,
      ⟨some 5, (.unOp .not 4 (.tmp 4)), 4, none⟩,
      ⟨some 2, (.assign (.tmp 5)), 4, none⟩])
    .ret))
theorem C86 {args : List AV} {r : AV} (hn : args.length ≤ 6) (h : vc Try.prog T [] A86 (Fin T [(.tmp 2)] r) ⟨envOf 0 args, []⟩) : CallP Try.prog 86 args r :=
  callP_of tok mixed Try.func86 (by kernel_rfl) (by kernel_rfl) (by kernel_rfl : Try.f86.ntmps = 6) (by kernel_rfl : Try.f86.body.bind (strip 6 (fun _ => [])) = some A86) hn h
def A93 : ACode :=
  (.seq (.reg [] [⟨some 4, (.box 25 (.tmp 1)), 0, none⟩,
      ⟨some 6, (.assign (.const (.slice none 0 0))), 23, none⟩,
      ⟨some 7, (.assign (.const (.bool false))), 4, none⟩])
    (.seq (.reg [] [⟨some 11, (.buildSlice 23 1 #[(0, (.const (.int .i64 (-1))))]), 23, none⟩,
      ⟨some 12, (.fieldAddr 25 (.tmp 4) 0), 0, none⟩,
      ⟨some 13, (.load 23 (.tmp 12)), 23, none⟩,
      ⟨some 14, (.call ⟨(.builtin .len), #[(.tmp 13)], #[23]⟩), 3, none⟩,
      ⟨some 15, (.call ⟨(.value (.func 102)), #[(.tmp 11), (.tmp 14)], #[23, 3]⟩), 23, none⟩,
      ⟨some 8, (.assign (.tmp 15)), 23, none⟩])
    (.seq (.seq (.reg [] [⟨some 16, (.fieldAddr 25 (.tmp 4) 1), 0, none⟩,
      ⟨some 17, (.load 23 (.tmp 16)), 23, none⟩,
      ⟨some 18, (.call ⟨(.builtin .len), #[(.tmp 17)], #[23]⟩), 3, none⟩,
      ⟨some 19, (.move (.const (.int .i64 0))), 3, none⟩])
    (.block 0 (.loop (.seq (.reg [] [⟨some 20, (.binOp .lss 3 (.tmp 19) (.tmp 18) 3), 0, none⟩])
    (.seq (.cond (.tmp 20)
    .skip
    (.exit 0))
    (.seq (.block 1 (.seq (.reg [] [⟨some 21, (.move (.tmp 19)), 3, none⟩,
      ⟨some 22, (.indexAddr 23 (.tmp 17) (.tmp 19)), 0, none⟩,
      ⟨some 23, (.load 3 (.tmp 22)), 3, none⟩,
      ⟨some 9, (.assign (.tmp 21)), 3, none⟩,
      ⟨some 10, (.assign (.tmp 23)), 3, none⟩])
    (.seq (.seq (.draw [] [⟨some 24, (.move (.tmp 8)), 23, none⟩,
      ⟨some 25, (.move (.tmp 10)), 3, none⟩,
      ⟨some 26, (.indexAddr 23 (.tmp 24) (.tmp 25)), 0, none⟩,
      ⟨some 27, (.load 3 (.tmp 26)), 3, none⟩,
      ⟨some 28, (.binOp .geq 3 (.tmp 27) (.const (.int .i64 0)) 3), 4, none⟩,
      ⟨some 29, (.move (.tmp 28)), 4, none⟩,
      ⟨some 30, (.move (.tmp 8)), 23, some (29, true)⟩,
      ⟨some 31, (.move (.tmp 10)), 3, some (29, true)⟩,
      ⟨some 32, (.indexAddr 23 (.tmp 30) (.tmp 31)), 0, some (29, true)⟩,
      ⟨some 33, (.load 3 (.tmp 32)), 3, some (29, true)⟩,
      ⟨some 34, (.move (.tmp 0)), 22, some (29, true)⟩,
      ⟨some 35, (.move (.tmp 9)), 3, some (29, true)⟩,
      ⟨some 36, (.indexAddr 22 (.tmp 34) (.tmp 35)), 0, some (29, true)⟩,
      ⟨some 37, (.load 23 (.tmp 36)), 23, some (29, true)⟩,
      ⟨some 38, (.move (.tmp 2)), 3, some (29, true)⟩,
      ⟨some 39, (.indexAddr 23 (.tmp 37) (.tmp 38)), 0, some (29, true)⟩,
      ⟨some 40, (.load 3 (.tmp 39)), 3, some (29, true)⟩,
      ⟨some 41, (.binOp .neq 3 (.tmp 33) (.tmp 40) 3), 4, some (29, true)⟩,
      ⟨some 42, (.pick (.tmp 29) (.tmp 41) (.const (.bool false))), 4, none⟩] [(0, 1), (6, 7), (6, 10), (7, 10), (8, 10), (9, 10), (6, 11), (7, 11), (8, 11), (9, 11), (10, 11), (6, 12), (7, 12), (8, 12), (9, 12), (6, 13), (7, 13), (8, 13), (9, 13), (6, 14), (7, 14), (8, 14), (9, 14), (10, 14), (11, 14), (12, 14), (13, 14), (6, 15), (7, 15), (8, 15), (9, 15), (6, 16), (7, 16), (8, 16), (9, 16)])
    (.cond (.tmp 42)
    (.seq (.reg [] [⟨some 6, (.assign (.const (.slice none 0 0))), 23, none⟩,
      ⟨some 7, (.assign (.const (.bool false))), 4, none⟩])
    .ret)
    .skip))
    (.reg [] [⟨some 43, (.move (.tmp 8)), 23, none⟩,
      ⟨some 44, (.move (.tmp 10)), 3, none⟩,
      ⟨some 45, (.move (.tmp 0)), 22, none⟩,
      ⟨some 46, (.move (.tmp 9)), 3, none⟩,
      ⟨some 47, (.indexAddr 22 (.tmp 45) (.tmp 46)), 0, none⟩,
      ⟨some 48, (.load 23 (.tmp 47)), 23, none⟩,
      ⟨some 49, (.move (.tmp 2)), 3, none⟩,
      ⟨some 50, (.indexAddr 23 (.tmp 48) (.tmp 49)), 0, none⟩,
      ⟨some 51, (.load 3 (.tmp 50)), 3, none⟩,
      ⟨some 52, (.indexAddr 23 (.tmp 43) (.tmp 44)), 0, none⟩,
      ⟨none, (.store 3 (.tmp 52) (.tmp 51)), 0, none⟩]))))
    (.reg [] [⟨some 53, (.binOp .add 3 (.tmp 19) (.const (.int .i64 1)) 3), 3, none⟩,
      ⟨some 19, (.move (.tmp 53)), 3, none⟩])))))))
    (.seq (.reg [] [⟨some 54, (.move (.tmp 8)), 23, none⟩,
      ⟨some 6, (.assign (.tmp 54)), 23, none⟩,
      ⟨some 7, (.assign (.const (.bool true))), 4, none⟩])
    .ret))))
theorem C93 {args : List AV} {r : AV} (hn : args.length ≤ 55) (h : vc Try.prog T [] A93 (Fin T [(.tmp 6), (.tmp 7)] r) ⟨envOf 0 args, []⟩) : CallP Try.prog 93 args r :=
  callP_of tok mixed Try.func93 (by kernel_rfl) (by kernel_rfl) (by kernel_rfl : Try.f93.ntmps = 55) (by kernel_rfl : Try.f93.body.bind (strip 55 (fun _ => [])) = some A93) hn h

end Go.Proofs.Ytnpkaemlidifgaa
end

section
/- Functions of the cut as the value layer reads them. (written by gen.py) -/
set_option maxRecDepth 20000
namespace Go.Proofs.Ytnpkaemlidifgaa
open Go.Abs Go

def A35 : ACode :=
  (.seq (.reg [] [⟨some 2, (.assign (.const (.int .i64 0))), 29, none⟩])
    (.seq (.seq (.reg [] [⟨some 5, (.move (.tmp 0)), 22, none⟩,
      ⟨some 6, (.call ⟨(.builtin .len), #[(.tmp 5)], #[22]⟩), 3, none⟩,
      ⟨some 7, (.call ⟨(.value (.func 68)), #[(.tmp 6), (.const (.int .i64 1)), (.const (.int .i64 6))], #[3, 3, 3]⟩), 4, none⟩,
      ⟨some 8, (.unOp .not 4 (.tmp 7)), 4, none⟩,
      ⟨some 9, (.move (.tmp 8)), 4, none⟩,
      ⟨some 10, (.move (.tmp 0)), 22, some (9, false)⟩,
      ⟨some 11, (.indexAddr 22 (.tmp 10) (.const (.int .i64 0))), 0, some (9, false)⟩,
      ⟨some 12, (.load 23 (.tmp 11)), 23, some (9, false)⟩,
      ⟨some 13, (.call ⟨(.builtin .len), #[(.tmp 12)], #[23]⟩), 3, some (9, false)⟩,
      ⟨some 14, (.binOp .gtr 3 (.tmp 13) (.const (.int .i64 6)) 3), 4, some (9, false)⟩,
      ⟨some 15, (.pick (.tmp 9) (.const (.bool true)) (.tmp 14)), 4, none⟩])
    (.cond (.tmp 15)
    (.seq (.reg [] [⟨some 2, (.assign (.const (.int .i64 3))), 29, none⟩])
    .ret)
    .skip))
    (.seq (.seq (.reg [] [⟨some 3, (.assign (.const (.int .i64 0))), 3, none⟩])
    (.block 0 (.loop (.seq (.seq (.reg [] [⟨some 16, (.move (.tmp 3)), 3, none⟩,
      ⟨some 17, (.move (.tmp 0)), 22, none⟩,
      ⟨some 18, (.call ⟨(.builtin .len), #[(.tmp 17)], #[22]⟩), 3, none⟩,
      ⟨some 19, (.binOp .lss 3 (.tmp 16) (.tmp 18) 3), 4, none⟩])
    (.cond (.tmp 19)
    .skip
    (.exit 0)))
    (.seq (.block 1 (.seq (.seq (.draw [] [⟨some 22, (.move (.tmp 0)), 22, none⟩,
      ⟨some 23, (.move (.tmp 3)), 3, none⟩,
      ⟨some 24, (.indexAddr 22 (.tmp 22) (.tmp 23)), 0, none⟩,
      ⟨some 25, (.load 23 (.tmp 24)), 23, none⟩,
      ⟨some 26, (.call ⟨(.builtin .len), #[(.tmp 25)], #[23]⟩), 3, none⟩,
      ⟨some 27, (.move (.tmp 0)), 22, none⟩,
      ⟨some 28, (.indexAddr 22 (.tmp 27) (.const (.int .i64 0))), 0, none⟩,
      ⟨some 29, (.load 23 (.tmp 28)), 23, none⟩,
      ⟨some 30, (.call ⟨(.builtin .len), #[(.tmp 29)], #[23]⟩), 3, none⟩,
      ⟨some 31, (.binOp .neq 3 (.tmp 26) (.tmp 30) 3), 4, none⟩] [(0, 1), (0, 5), (1, 5), (2, 5), (3, 5), (4, 5), (0, 6), (1, 6), (2, 6), (3, 6), (4, 6), (0, 7), (1, 7), (2, 7), (3, 7), (4, 7), (0, 8), (1, 8), (2, 8), (3, 8), (4, 8)])
    (.cond (.tmp 31)
    (.seq (.reg [] [⟨some 2, (.assign (.const (.int .i64 1))), 29, none⟩])
    .ret)
    .skip))
    (.seq (.reg [] [⟨some 4, (.assign (.const (.int .i64 0))), 3, none⟩])
    (.block 2 (.loop (.seq (.seq (.reg [] [⟨some 32, (.move (.tmp 4)), 3, none⟩,
      ⟨some 33, (.move (.tmp 0)), 22, none⟩,
      ⟨some 34, (.move (.tmp 3)), 3, none⟩,
      ⟨some 35, (.indexAddr 22 (.tmp 33) (.tmp 34)), 0, none⟩,
      ⟨some 36, (.load 23 (.tmp 35)), 23, none⟩,
      ⟨some 37, (.call ⟨(.builtin .len), #[(.tmp 36)], #[23]⟩), 3, none⟩,
      ⟨some 38, (.binOp .lss 3 (.tmp 32) (.tmp 37) 3), 4, none⟩])
    (.cond (.tmp 38)
    .skip
    (.exit 2)))
    (.seq (.block 3 (.seq (.reg [] [⟨some 41, (.move (.tmp 0)), 22, none⟩,
      ⟨some 42, (.move (.tmp 3)), 3, none⟩,
      ⟨some 43, (.indexAddr 22 (.tmp 41) (.tmp 42)), 0, none⟩,
      ⟨some 44, (.load 23 (.tmp 43)), 23, none⟩,
      ⟨some 45, (.move (.tmp 4)), 3, none⟩,
      ⟨some 46, (.indexAddr 23 (.tmp 44) (.tmp 45)), 0, none⟩,
      ⟨some 47, (.load 3 (.tmp 46)), 3, none⟩,
      ⟨some 48, (.call ⟨(.value (.func 68)), #[(.tmp 47), (.const (.int .i64 0)), (.const (.int .i64 2))], #[3, 3, 3]⟩), 4, none⟩,
      ⟨some 49, (.unOp .not 4 (.tmp 48)), 4, none⟩])
    (.cond (.tmp 49)
    (.seq (.reg [] [⟨some 2, (.assign (.const (.int .i64 1))), 29, none⟩])
    .ret)
    .skip)))
    (.reg [] [⟨some 39, (.move (.tmp 4)), 3, none⟩,
      ⟨some 40, (.binOp .add 3 (.tmp 39) (.const (.int .i64 1)) 3), 3, none⟩,
      ⟨some 4, (.assign (.tmp 40)), 3, none⟩]))))))))
    (.reg [] [⟨some 20, (.move (.tmp 3)), 3, none⟩,
      ⟨some 21, (.binOp .add 3 (.tmp 20) (.const (.int .i64 1)) 3), 3, none⟩,
      ⟨some 3, (.assign (.tmp 21)), 3, none⟩]))))))
    (.seq (.reg [] [⟨some 2, (.assign (.const (.int .i64 0))), 29, none⟩])
    .ret))))
theorem C35 {args : List AV} {r : AV} (hn : args.length ≤ 50) (h : vc Try.prog T [] A35 (Fin T [(.tmp 2)] r) ⟨envOf 0 args, []⟩) : CallP Try.prog 35 args r :=
  callP_of tok mixed Try.func35 (by kernel_rfl) (by kernel_rfl) (by kernel_rfl : Try.f35.ntmps = 50) (by kernel_rfl : Try.f35.body.bind (strip 50 (fun _ => [])) = some A35) hn h
def A36 : ACode :=
  (.seq (.reg [] [⟨some 4, (.assign (.const (.bool false))), 4, none⟩])
    (.seq (.seq (.reg [] [⟨some 6, (.move (.tmp 0)), 23, none⟩,
      ⟨some 7, (.call ⟨(.builtin .len), #[(.tmp 6)], #[23]⟩), 3, none⟩,
      ⟨some 8, (.move (.tmp 1)), 23, none⟩,
      ⟨some 9, (.call ⟨(.builtin .len), #[(.tmp 8)], #[23]⟩), 3, none⟩,
      ⟨some 10, (.binOp .neq 3 (.tmp 7) (.tmp 9) 3), 4, none⟩])
    (.cond (.tmp 10)
    (.seq (.reg [] [⟨some 4, (.assign (.const (.bool false))), 4, none⟩])
    .ret)
    .skip))
    (.seq (.seq (.reg [] [⟨some 5, (.assign (.const (.int .i64 0))), 3, none⟩])
    (.block 0 (.loop (.seq (.seq (.reg [] [⟨some 11, (.move (.tmp 5)), 3, none⟩,
      ⟨some 12, (.move (.tmp 0)), 23, none⟩,
      ⟨some 13, (.call ⟨(.builtin .len), #[(.tmp 12)], #[23]⟩), 3, none⟩,
      ⟨some 14, (.binOp .lss 3 (.tmp 11) (.tmp 13) 3), 4, none⟩])
    (.cond (.tmp 14)
    .skip
    (.exit 0)))
    (.seq (.block 1 (.seq (.draw [] [⟨some 17, (.move (.tmp 0)), 23, none⟩,
      ⟨some 18, (.move (.tmp 5)), 3, none⟩,
      ⟨some 19, (.indexAddr 23 (.tmp 17) (.tmp 18)), 0, none⟩,
      ⟨some 20, (.load 3 (.tmp 19)), 3, none⟩,
      ⟨some 21, (.move (.tmp 1)), 23, none⟩,
      ⟨some 22, (.move (.tmp 5)), 3, none⟩,
      ⟨some 23, (.indexAddr 23 (.tmp 21) (.tmp 22)), 0, none⟩,
      ⟨some 24, (.load 3 (.tmp 23)), 3, none⟩,
      ⟨some 25, (.binOp .neq 3 (.tmp 20) (.tmp 24) 3), 4, none⟩] [(0, 1), (0, 4), (1, 4), (2, 4), (3, 4), (0, 5), (1, 5), (2, 5), (3, 5), (4, 5), (0, 6), (1, 6), (2, 6), (3, 6), (0, 7), (1, 7), (2, 7), (3, 7)])
    (.cond (.tmp 25)
    (.seq (.reg [] [⟨some 4, (.assign (.const (.bool false))), 4, none⟩])
    .ret)
    .skip)))
    (.reg [] [⟨some 15, (.move (.tmp 5)), 3, none⟩,
      ⟨some 16, (.binOp .add 3 (.tmp 15) (.const (.int .i64 1)) 3), 3, none⟩,
      ⟨some 5, (.assign (.tmp 16)), 3, none⟩]))))))
    (.seq (.reg [] [⟨some 4, (.assign (.const (.bool true))), 4, none⟩])
    .ret))))
theorem C36 {args : List AV} {r : AV} (hn : args.length ≤ 26) (h : vc Try.prog T [] A36 (Fin T [(.tmp 4)] r) ⟨envOf 0 args, []⟩) : CallP Try.prog 36 args r :=
  callP_of tok mixed Try.func36 (by kernel_rfl) (by kernel_rfl) (by kernel_rfl : Try.f36.ntmps = 26) (by kernel_rfl : Try.f36.body.bind (strip 26 (fun _ => [])) = some A36) hn h
def A43 : ACode :=
  (.seq (.reg [] [⟨some 4, (.assign (.const (.bool false))), 4, none⟩])
    (.seq (.seq (.reg [] [⟨some 6, (.move (.tmp 0)), 50, none⟩,
      ⟨some 7, (.call ⟨(.builtin .len), #[(.tmp 6)], #[50]⟩), 3, none⟩,
      ⟨some 8, (.move (.tmp 1)), 50, none⟩,
      ⟨some 9, (.call ⟨(.builtin .len), #[(.tmp 8)], #[50]⟩), 3, none⟩,
      ⟨some 10, (.binOp .neq 3 (.tmp 7) (.tmp 9) 3), 4, none⟩])
    (.cond (.tmp 10)
    (.seq (.reg [] [⟨some 4, (.assign (.const (.bool false))), 4, none⟩])
    .ret)
    .skip))
    (.seq (.seq (.reg [] [⟨some 5, (.assign (.const (.int .i64 0))), 3, none⟩])
    (.block 0 (.loop (.seq (.seq (.reg [] [⟨some 11, (.move (.tmp 5)), 3, none⟩,
      ⟨some 12, (.move (.tmp 0)), 50, none⟩,
      ⟨some 13, (.call ⟨(.builtin .len), #[(.tmp 12)], #[50]⟩), 3, none⟩,
      ⟨some 14, (.binOp .lss 3 (.tmp 11) (.tmp 13) 3), 4, none⟩])
    (.cond (.tmp 14)
    .skip
    (.exit 0)))
    (.seq (.block 1 (.seq (.draw [] [⟨some 17, (.move (.tmp 0)), 50, none⟩,
      ⟨some 18, (.move (.tmp 5)), 3, none⟩,
      ⟨some 19, (.indexAddr 50 (.tmp 17) (.tmp 18)), 0, none⟩,
      ⟨some 20, (.load 84 (.tmp 19)), 84, none⟩,
      ⟨some 21, (.move (.tmp 1)), 50, none⟩,
      ⟨some 22, (.move (.tmp 5)), 3, none⟩,
      ⟨some 23, (.indexAddr 50 (.tmp 21) (.tmp 22)), 0, none⟩,
      ⟨some 24, (.load 84 (.tmp 23)), 84, none⟩,
      ⟨some 25, (.binOp .neq 84 (.tmp 20) (.tmp 24) 84), 4, none⟩] [(0, 1), (0, 4), (1, 4), (2, 4), (3, 4), (0, 5), (1, 5), (2, 5), (3, 5), (4, 5), (0, 6), (1, 6), (2, 6), (3, 6), (0, 7), (1, 7), (2, 7), (3, 7)])
    (.cond (.tmp 25)
    (.seq (.reg [] [⟨some 4, (.assign (.const (.bool false))), 4, none⟩])
    .ret)
    .skip)))
    (.reg [] [⟨some 15, (.move (.tmp 5)), 3, none⟩,
      ⟨some 16, (.binOp .add 3 (.tmp 15) (.const (.int .i64 1)) 3), 3, none⟩,
      ⟨some 5, (.assign (.tmp 16)), 3, none⟩]))))))
    (.seq (.reg [] [⟨some 4, (.assign (.const (.bool true))), 4, none⟩])
    .ret))))
theorem C43 {args : List AV} {r : AV} (hn : args.length ≤ 26) (h : vc Try.prog T [] A43 (Fin T [(.tmp 4)] r) ⟨envOf 0 args, []⟩) : CallP Try.prog 43 args r :=
  callP_of tok mixed Try.func43 (by kernel_rfl) (by kernel_rfl) (by kernel_rfl : Try.f43.ntmps = 26) (by kernel_rfl : Try.f43.body.bind (strip 26 (fun _ => [])) = some A43) hn h
def A46 : ACode :=
  (.seq (.reg [] [⟨some 4, (.assign (.const (.bool false))), 4, none⟩])
    (.seq (.seq (.reg [] [⟨some 6, (.move (.tmp 0)), 22, none⟩,
      ⟨some 7, (.call ⟨(.builtin .len), #[(.tmp 6)], #[22]⟩), 3, none⟩,
      ⟨some 8, (.move (.tmp 1)), 22, none⟩,
      ⟨some 9, (.call ⟨(.builtin .len), #[(.tmp 8)], #[22]⟩), 3, none⟩,
      ⟨some 10, (.binOp .neq 3 (.tmp 7) (.tmp 9) 3), 4, none⟩])
    (.cond (.tmp 10)
    (.seq (.reg [] [⟨some 4, (.assign (.const (.bool false))), 4, none⟩])
    .ret)
    .skip))
    (.seq (.seq (.reg [] [⟨some 5, (.assign (.const (.int .i64 0))), 3, none⟩])
    (.block 0 (.loop (.seq (.seq (.reg [] [⟨some 11, (.move (.tmp 5)), 3, none⟩,
      ⟨some 12, (.move (.tmp 0)), 22, none⟩,
      ⟨some 13, (.call ⟨(.builtin .len), #[(.tmp 12)], #[22]⟩), 3, none⟩,
      ⟨some 14, (.binOp .lss 3 (.tmp 11) (.tmp 13) 3), 4, none⟩])
    (.cond (.tmp 14)
    .skip
    (.exit 0)))
    (.seq (.block 1 (.seq (.draw [] [⟨some 17, (.move (.tmp 0)), 22, none⟩,
      ⟨some 18, (.move (.tmp 5)), 3, none⟩,
      ⟨some 19, (.indexAddr 22 (.tmp 17) (.tmp 18)), 0, none⟩,
      ⟨some 20, (.load 23 (.tmp 19)), 23, none⟩,
      ⟨some 21, (.move (.tmp 1)), 22, none⟩,
      ⟨some 22, (.move (.tmp 5)), 3, none⟩,
      ⟨some 23, (.indexAddr 22 (.tmp 21) (.tmp 22)), 0, none⟩,
      ⟨some 24, (.load 23 (.tmp 23)), 23, none⟩,
      ⟨some 25, (.call ⟨(.value (.func 36)), #[(.tmp 20), (.tmp 24)], #[23, 23]⟩), 4, none⟩,
      ⟨some 26, (.unOp .not 4 (.tmp 25)), 4, none⟩] [(0, 1), (0, 4), (1, 4), (2, 4), (3, 4), (0, 5), (1, 5), (2, 5), (3, 5), (4, 5), (0, 6), (1, 6), (2, 6), (3, 6), (0, 7), (1, 7), (2, 7), (3, 7)])
    (.cond (.tmp 26)
    (.seq (.reg [] [⟨some 4, (.assign (.const (.bool false))), 4, none⟩])
    .ret)
    .skip)))
    (.reg [] [⟨some 15, (.move (.tmp 5)), 3, none⟩,
      ⟨some 16, (.binOp .add 3 (.tmp 15) (.const (.int .i64 1)) 3), 3, none⟩,
      ⟨some 5, (.assign (.tmp 16)), 3, none⟩]))))))
    (.seq (.reg [] [⟨some 4, (.assign (.const (.bool true))), 4, none⟩])
    .ret))))
theorem C46 {args : List AV} {r : AV} (hn : args.length ≤ 27) (h : vc Try.prog T [] A46 (Fin T [(.tmp 4)] r) ⟨envOf 0 args, []⟩) : CallP Try.prog 46 args r :=
  callP_of tok mixed Try.func46 (by kernel_rfl) (by kernel_rfl) (by kernel_rfl : Try.f46.ntmps = 27) (by kernel_rfl : Try.f46.body.bind (strip 27 (fun _ => [])) = some A46) hn h
def A53 : ACode :=
  (.seq (.reg [] [⟨some 2, (.assign (.const (.slice none 0 0))), 22, none⟩])
    (.seq (.reg [] [⟨some 3, (.assign (.const (.slice none 0 0))), 22, none⟩])
    (.seq (.seq (.reg [] [⟨some 4, (.assign (.const (.int .i64 0))), 3, none⟩])
    (.block 0 (.loop (.seq (.seq (.reg [] [⟨some 5, (.move (.tmp 4)), 3, none⟩,
      ⟨some 6, (.move (.tmp 0)), 22, none⟩,
      ⟨some 7, (.call ⟨(.builtin .len), #[(.tmp 6)], #[22]⟩), 3, none⟩,
      ⟨some 8, (.binOp .lss 3 (.tmp 5) (.tmp 7) 3), 4, none⟩])
    (.cond (.tmp 8)
    .skip
    (.exit 0)))
    (.seq (.block 1 (.reg [] [⟨some 11, (.move (.tmp 3)), 22, none⟩,
      ⟨some 12, (.buildSlice 23 0 #[]), 23, none⟩,
      ⟨some 13, (.move (.tmp 0)), 22, none⟩,
      ⟨some 14, (.move (.tmp 4)), 3, none⟩,
      ⟨some 15, (.indexAddr 22 (.tmp 13) (.tmp 14)), 0, none⟩,
      ⟨some 16, (.load 23 (.tmp 15)), 23, none⟩,
      ⟨some 17, (.call ⟨(.builtin .append), #[(.tmp 12), (.tmp 16)], #[23, 23]⟩), 23, none⟩,
      ⟨some 18, (.buildSlice 22 1 #[(0, (.tmp 17))]), 22, none⟩,
      ⟨some 19, (.call ⟨(.builtin .append), #[(.tmp 11), (.tmp 18)], #[22, 22]⟩), 22, none⟩,
      ⟨some 3, (.assign (.tmp 19)), 22, none⟩]))
    (.reg [] [⟨some 9, (.move (.tmp 4)), 3, none⟩,
      ⟨some 10, (.binOp .add 3 (.tmp 9) (.const (.int .i64 1)) 3), 3, none⟩,
      ⟨some 4, (.assign (.tmp 10)), 3, none⟩]))))))
    (.seq (.reg [] [⟨some 20, (.move (.tmp 3)), 22, none⟩,
      ⟨some 2, (.assign (.tmp 20)), 22, none⟩])
    .ret))))
theorem C53 {args : List AV} {r : AV} (hn : args.length ≤ 21) (h : vc Try.prog T [] A53 (Fin T [(.tmp 2)] r) ⟨envOf 0 args, []⟩) : CallP Try.prog 53 args r :=
  callP_of tok mixed Try.func53 (by kernel_rfl) (by kernel_rfl) (by kernel_rfl : Try.f53.ntmps = 21) (by kernel_rfl : Try.f53.body.bind (strip 21 (fun _ => [])) = some A53) hn h
def A55 : ACode :=
  (.seq (.reg [] [⟨some 6, (.assign (.const (.slice none 0 0))), 22, none⟩,
      ⟨some 7, (.assign (.const (.int .i64 0))), 29, none⟩])
    (.seq (.reg [] [⟨some 14, (.move (.tmp 0)), 22, none⟩,
      ⟨some 15, (.move (.tmp 1)), 3, none⟩,
      ⟨some 16, (.call ⟨(.value (.func 63)), #[(.tmp 14), (.tmp 15)], #[22, 3]⟩), 29, none⟩,
      ⟨some 8, (.assign (.tmp 16)), 29, none⟩])
    (.seq (.seq (.reg [] [⟨some 17, (.move (.tmp 8)), 29, none⟩,
      ⟨some 18, (.binOp .neq 29 (.tmp 17) (.const (.int .i64 0)) 29), 4, none⟩])
    (.cond (.tmp 18)
    (.seq (.reg [] [⟨some 19, (.move (.tmp 8)), 29, none⟩,
      ⟨some 6, (.assign (.const (.slice none 0 0))), 22, none⟩,
      ⟨some 7, (.assign (.tmp 19)), 29, none⟩])
    .ret)
    .skip))
    (.seq (.seq (.reg [] [⟨some 20, (.move (.tmp 2)), 23, none⟩,
      ⟨some 21, (.call ⟨(.builtin .len), #[(.tmp 20)], #[23]⟩), 3, none⟩,
      ⟨some 22, (.binOp .neq 3 (.tmp 21) (.const (.int .i64 3)) 3), 4, none⟩])
    (.cond (.tmp 22)
    (.seq (.reg [] [⟨some 6, (.assign (.const (.slice none 0 0))), 22, none⟩,
      ⟨some 7, (.assign (.const (.int .i64 1))), 29, none⟩])
    .ret)
    .skip))
    (.seq (.seq (.reg [] [⟨some 9, (.assign (.const (.int .i64 0))), 3, none⟩])
    (.block 0 (.loop (.seq (.seq (.reg [] [⟨some 23, (.move (.tmp 9)), 3, none⟩,
      ⟨some 24, (.binOp .leq 3 (.tmp 23) (.const (.int .i64 2)) 3), 4, none⟩])
    (.cond (.tmp 24)
    .skip
    (.exit 0)))
    (.seq (.block 1 (.seq (.reg [] [⟨some 10, (.assign (.const (.bool false))), 4, none⟩])
    (.seq (.seq (.reg [] [⟨some 11, (.assign (.const (.int .i64 0))), 3, none⟩])
    (.block 2 (.loop (.seq (.seq (.reg [] [⟨some 27, (.move (.tmp 11)), 3, none⟩,
      ⟨some 28, (.move (.tmp 2)), 23, none⟩,
      ⟨some 29, (.call ⟨(.builtin .len), #[(.tmp 28)], #[23]⟩), 3, none⟩,
      ⟨some 30, (.binOp .lss 3 (.tmp 27) (.tmp 29) 3), 4, none⟩])
    (.cond (.tmp 30)
    .skip
    (.exit 2)))
    (.seq (.block 3 (.reg [] [⟨some 33, (.move (.tmp 10)), 4, none⟩,
      ⟨some 34, (.move (.tmp 33)), 4, none⟩,
      ⟨some 35, (.move (.tmp 2)), 23, some (34, false)⟩,
      ⟨some 36, (.move (.tmp 11)), 3, some (34, false)⟩,
      ⟨some 37, (.indexAddr 23 (.tmp 35) (.tmp 36)), 0, some (34, false)⟩,
      ⟨some 38, (.load 3 (.tmp 37)), 3, some (34, false)⟩,
      ⟨some 39, (.move (.tmp 9)), 3, some (34, false)⟩,
      ⟨some 40, (.binOp .eql 3 (.tmp 38) (.tmp 39) 3), 4, some (34, false)⟩,
      ⟨some 41, (.pick (.tmp 34) (.const (.bool true)) (.tmp 40)), 4, none⟩,
      ⟨some 10, (.assign (.tmp 41)), 4, none⟩]))
    (.reg [] [⟨some 31, (.move (.tmp 11)), 3, none⟩,
      ⟨some 32, (.binOp .add 3 (.tmp 31) (.const (.int .i64 1)) 3), 3, none⟩,
      ⟨some 11, (.assign (.tmp 32)), 3, none⟩]))))))
    (.seq (.reg [] [⟨some 42, (.move (.tmp 10)), 4, none⟩,
      ⟨some 43, (.unOp .not 4 (.tmp 42)), 4, none⟩])
    (.cond (.tmp 43)
    (.seq (.reg [] [⟨some 6, (.assign (.const (.slice none 0 0))), 22, none⟩,
      ⟨some 7, (.assign (.const (.int .i64 1))), 29, none⟩])
    .ret)
    .skip)))))
    (.reg [] [⟨some 25, (.move (.tmp 9)), 3, none⟩,
      ⟨some 26, (.binOp .add 3 (.tmp 25) (.const (.int .i64 1)) 3), 3, none⟩,
      ⟨some 9, (.assign (.tmp 26)), 3, none⟩]))))))
    (.seq (.reg [] [⟨some 44, (.move (.tmp 0)), 22, none⟩,
      ⟨some 45, (.call ⟨(.value (.func 53)), #[(.tmp 44)], #[22]⟩), 22, none⟩,
      ⟨some 12, (.assign (.tmp 45)), 22, none⟩])
    (.seq (.seq (.reg [] [⟨some 13, (.assign (.const (.int .i64 0))), 3, none⟩])
    (.block 4 (.loop (.seq (.seq (.reg [] [⟨some 46, (.move (.tmp 13)), 3, none⟩,
      ⟨some 47, (.move (.tmp 12)), 22, none⟩,
      ⟨some 48, (.call ⟨(.builtin .len), #[(.tmp 47)], #[22]⟩), 3, none⟩,
      ⟨some 49, (.binOp .lss 3 (.tmp 46) (.tmp 48) 3), 4, none⟩])
    (.cond (.tmp 49)
    .skip
    (.exit 4)))
    (.seq (.block 5 (.draw [] [⟨some 52, (.move (.tmp 12)), 22, none⟩,
      ⟨some 53, (.move (.tmp 13)), 3, none⟩,
      ⟨some 54, (.indexAddr 22 (.tmp 52) (.tmp 53)), 0, none⟩,
      ⟨some 55, (.load 23 (.tmp 54)), 23, none⟩,
      ⟨some 56, (.move (.tmp 1)), 3, none⟩,
      ⟨some 57, (.move (.tmp 2)), 23, none⟩,
      ⟨some 58, (.move (.tmp 0)), 22, none⟩,
      ⟨some 59, (.move (.tmp 13)), 3, none⟩,
      ⟨some 60, (.indexAddr 22 (.tmp 58) (.tmp 59)), 0, none⟩,
      ⟨some 61, (.load 23 (.tmp 60)), 23, none⟩,
      ⟨some 62, (.move (.tmp 1)), 3, none⟩,
      ⟨some 63, (.indexAddr 23 (.tmp 61) (.tmp 62)), 0, none⟩,
      ⟨some 64, (.load 3 (.tmp 63)), 3, none⟩,
      ⟨some 65, (.indexAddr 23 (.tmp 57) (.tmp 64)), 0, none⟩,
      ⟨some 66, (.load 3 (.tmp 65)), 3, none⟩,
      ⟨some 67, (.indexAddr 23 (.tmp 55) (.tmp 56)), 0, none⟩,
      ⟨none, (.store 3 (.tmp 67) (.tmp 66)), 0, none⟩] [(0, 1), (0, 4), (1, 4), (2, 4), (3, 4), (0, 5), (1, 5), (2, 5), (3, 5), (4, 5), (0, 6), (1, 6), (2, 6), (3, 6), (4, 6), (5, 6), (0, 7), (1, 7), (2, 7), (3, 7), (4, 7), (5, 7), (6, 7), (0, 8), (1, 8), (2, 8), (3, 8), (4, 8), (5, 8), (0, 9), (1, 9), (2, 9), (3, 9), (4, 9), (5, 9), (0, 10), (1, 10), (2, 10), (3, 10), (4, 10), (5, 10), (6, 10), (7, 10), (8, 10), (9, 10), (0, 11), (1, 11), (2, 11), (3, 11), (4, 11), (5, 11), (0, 12), (1, 12), (2, 12), (3, 12), (4, 12), (5, 12), (0, 13), (1, 13), (2, 13), (3, 13), (4, 13), (0, 14), (1, 14), (2, 14), (3, 14), (4, 14)]))
    (.reg [] [⟨some 50, (.move (.tmp 13)), 3, none⟩,
      ⟨some 51, (.binOp .add 3 (.tmp 50) (.const (.int .i64 1)) 3), 3, none⟩,
      ⟨some 13, (.assign (.tmp 51)), 3, none⟩]))))))
    (.seq (.reg [] [⟨some 68, (.move (.tmp 12)), 22, none⟩,
      ⟨some 6, (.assign (.tmp 68)), 22, none⟩,
      ⟨some 7, (.assign (.const (.int .i64 0))), 29, none⟩])
    .ret))))))))
def A63 : ACode :=
  (.seq (.reg [] [⟨some 4, (.assign (.const (.int .i64 0))), 29, none⟩])
    (.seq (.reg [] [⟨some 6, (.move (.tmp 0)), 22, none⟩,
      ⟨some 7, (.call ⟨(.value (.func 35)), #[(.tmp 6)], #[22]⟩), 29, none⟩,
      ⟨some 5, (.assign (.tmp 7)), 29, none⟩])
    (.seq (.seq (.reg [] [⟨some 8, (.move (.tmp 5)), 29, none⟩,
      ⟨some 9, (.binOp .neq 29 (.tmp 8) (.const (.int .i64 0)) 29), 4, none⟩])
    (.cond (.tmp 9)
    (.seq (.reg [] [⟨some 10, (.move (.tmp 5)), 29, none⟩,
      ⟨some 4, (.assign (.tmp 10)), 29, none⟩])
    .ret)
    .skip))
    (.seq (.seq (.reg [] [⟨some 11, (.move (.tmp 1)), 3, none⟩,
      ⟨some 12, (.move (.tmp 0)), 22, none⟩,
      ⟨some 13, (.indexAddr 22 (.tmp 12) (.const (.int .i64 0))), 0, none⟩,
      ⟨some 14, (.load 23 (.tmp 13)), 23, none⟩,
      ⟨some 15, (.call ⟨(.builtin .len), #[(.tmp 14)], #[23]⟩), 3, none⟩,
      ⟨some 16, (.binOp .sub 3 (.tmp 15) (.const (.int .i64 1)) 3), 3, none⟩,
      ⟨some 17, (.call ⟨(.value (.func 68)), #[(.tmp 11), (.const (.int .i64 0)), (.tmp 16)], #[3, 3, 3]⟩), 4, none⟩,
      ⟨some 18, (.unOp .not 4 (.tmp 17)), 4, none⟩])
    (.cond (.tmp 18)
    (.seq (.reg [] [⟨some 4, (.assign (.const (.int .i64 4))), 29, none⟩])
    .ret)
    .skip))
    (.seq (.reg [] [⟨some 4, (.assign (.const (.int .i64 0))), 29, none⟩])
    .ret)))))
theorem C63 {args : List AV} {r : AV} (hn : args.length ≤ 19) (h : vc Try.prog T [] A63 (Fin T [(.tmp 4)] r) ⟨envOf 0 args, []⟩) : CallP Try.prog 63 args r :=
  callP_of tok mixed Try.func63 (by kernel_rfl) (by kernel_rfl) (by kernel_rfl : Try.f63.ntmps = 19) (by kernel_rfl : Try.f63.body.bind (strip 19 (fun _ => [])) = some A63) hn h
def A68 : ACode :=
  (.seq (.reg [] [⟨some 6, (.assign (.const (.bool false))), 4, none⟩])
    (.seq (.reg [] [⟨some 7, (.move (.tmp 0)), 3, none⟩,
      ⟨some 8, (.move (.tmp 1)), 3, none⟩,
      ⟨some 9, (.binOp .geq 3 (.tmp 7) (.tmp 8) 3), 4, none⟩,
      ⟨some 10, (.move (.tmp 9)), 4, none⟩,
      ⟨some 11, (.move (.tmp 0)), 3, some (10, true)⟩,
      ⟨some 12, (.move (.tmp 2)), 3, some (10, true)⟩,
      ⟨some 13, (.binOp .leq 3 (.tmp 11) (.tmp 12) 3), 4, some (10, true)⟩,
      ⟨some 14, (.pick (.tmp 10) (.tmp 13) (.const (.bool false))), 4, none⟩,
      ⟨some 6, (.assign (.tmp 14)), 4, none⟩])
    .ret))
theorem C68 {args : List AV} {r : AV} (hn : args.length ≤ 15) (h : vc Try.prog T [] A68 (Fin T [(.tmp 6)] r) ⟨envOf 0 args, []⟩) : CallP Try.prog 68 args r :=
  callP_of tok mixed Try.func68 (by kernel_rfl) (by kernel_rfl) (by kernel_rfl : Try.f68.ntmps = 15) (by kernel_rfl : Try.f68.body.bind (strip 15 (fun _ => [])) = some A68) hn h
end Go.Proofs.Ytnpkaemlidifgaa
end

section
/- Plain: the fewest changes on a tree, from the leaves to the first node. -/
namespace Go.Proofs.Ytnpkaemlidifgaa
open Go.Abs Go

def dd (q r : Int) : Int := if q = r then 0 else 1
theorem dd_le (q r : Int) : dd q r ≤ 1 := by unfold dd; split <;> omega
theorem dd_nn (q r : Int) : 0 ≤ dd q r := by unfold dd; split <;> omega
/-- A reading. -/
def ok3 (r : Int) : Prop := r = 0 ∨ r = 1 ∨ r = 2
/-- The smallest cost of a node, seen from its parent with a reading, at most M. -/
def leastF (M : Int) (f : Int → Int) (r : Int) : Int := min (min (min M (f 0 + dd 0 r)) (f 1 + dd 1 r)) (f 2 + dd 2 r)
theorem leastF_le {M : Int} {f : Int → Int} {r q : Int} (hq : ok3 q) : leastF M f r ≤ f q + dd q r := by
  unfold leastF
  rcases hq with rfl | rfl | rfl <;> omega
theorem leastF_top {M : Int} {f : Int → Int} {r : Int} : leastF M f r ≤ M := by unfold leastF; omega
theorem leastF_ge {M x : Int} {f : Int → Int} {r : Int} (h0 : x ≤ M) (h : ∀ q, ok3 q → x ≤ f q + dd q r) : x ≤ leastF M f r := by
  have a := h 0 (.inl rfl)
  have b := h 1 (.inr (.inl rfl))
  have c := h 2 (.inr (.inr rfl))
  unfold leastF
  omega
theorem leastF_nn {M : Int} {f : Int → Int} {r : Int} (h0 : 0 ≤ M) (h : ∀ q, 0 ≤ f q) : 0 ≤ leastF M f r :=
  leastF_ge h0 fun q _ => by have := h q; have := dd_nn q r; omega

abbrev Cost := Nat → Int → Int
/-- What a node must not read costs M. -/
def forb (M : Int) (al : Nat → Int → Bool) (i : Nat) (b : Cost) : Cost := fun j r => if j = i ∧ al i r = false then M else b j r
/-- A node is added to its parent. -/
def dpStep (M : Int) (al : Nat → Int → Bool) (p : Nat → Nat) (i : Nat) (b : Cost) : Cost :=
  fun j r => if i ≠ 0 ∧ j = p i then forb M al i b j r + leastF M (forb M al i b i) r else forb M al i b j r
/-- The nodes below k, the last one first. -/
def dpRun (M : Int) (al : Nat → Int → Bool) (p : Nat → Nat) : Nat → Cost → Cost
  | 0, b => b
  | k + 1, b => dpRun M al p k (dpStep M al p k b)
theorem forb_other {M : Int} {al : Nat → Int → Bool} {i j : Nat} {b : Cost} {r : Int} (h : j ≠ i) : forb M al i b j r = b j r := by simp [forb, h]
theorem forb_al {M : Int} {al : Nat → Int → Bool} {i j : Nat} {b : Cost} {r : Int} (h : al i r = true) : forb M al i b j r = b j r := by simp [forb, h]

def sumB (b : Cost) (rd : Nat → Int) : Nat → Int
  | 0 => 0
  | i + 1 => sumB b rd i + b i (rd i)
/-- The changes of the nodes 1 to k. -/
def chg (p : Nat → Nat) (rd : Nat → Int) : Nat → Int
  | 0 => 0
  | k + 1 => chg p rd k + dd (rd (k + 1)) (rd (p (k + 1)))
theorem chg_nn (p : Nat → Nat) (rd : Nat → Int) : ∀ k, 0 ≤ chg p rd k
  | 0 => Int.le_refl 0
  | k + 1 => by have := chg_nn p rd k; have := dd_nn (rd (k + 1)) (rd (p (k + 1))); simp only [chg]; omega
theorem chg_le (p : Nat → Nat) (rd : Nat → Int) : ∀ k : Nat, chg p rd k ≤ k
  | 0 => by simp [chg]
  | k + 1 => by have := chg_le p rd k; have := dd_le (rd (k + 1)) (rd (p (k + 1))); simp only [chg]; omega

section
variable {M : Int} {al : Nat → Int → Bool} {p : Nat → Nat} (hp : ∀ i, 1 ≤ i → p i < i)

include hp in
theorem dpRun_keep : ∀ (k : Nat) (b : Cost) (j : Nat), k ≤ j → dpRun M al p k b j = b j
  | 0, b, j, _ => rfl
  | k + 1, b, j, h => by
    rw [dpRun, dpRun_keep k _ j (by omega)]
    funext r
    unfold dpStep
    have h1 : ¬ (k ≠ 0 ∧ j = p k) := by
      rintro ⟨h0, e⟩
      have := hp k (by omega)
      omega
    rw [if_neg h1, forb_other (by omega)]
include hp in
theorem dpStep_self (k : Nat) (b : Cost) : dpStep M al p k b k = forb M al k b k := by
  funext r
  unfold dpStep
  have h1 : ¬ (k ≠ 0 ∧ k = p k) := by
    rintro ⟨h0, e⟩
    have := hp k (by omega)
    omega
  rw [if_neg h1]
theorem sum_step (rd : Nat → Int) (k : Nat) (b : Cost) : ∀ m, m ≤ k → sumB (dpStep M al p k b) rd m = sumB b rd m + if k ≠ 0 ∧ p k < m then leastF M (forb M al k b k) (rd (p k)) else 0
  | 0, _ => by simp [sumB]
  | m + 1, h => by
    rw [sumB, sumB, sum_step rd k b m (by omega)]
    have e : forb M al k b m (rd m) = b m (rd m) := forb_other (by omega)
    unfold dpStep
    by_cases h0 : k ≠ 0 ∧ m = p k
    · rw [if_pos h0, e]
      have h1 : ¬ (k ≠ 0 ∧ p k < m) := by omega
      have h2 : k ≠ 0 ∧ p k < m + 1 := by omega
      rw [if_neg h1, if_pos h2, ← h0.2]
      omega
    · rw [if_neg h0, e]
      by_cases h1 : k ≠ 0 ∧ p k < m
      · have h2 : k ≠ 0 ∧ p k < m + 1 := by omega
        rw [if_pos h1, if_pos h2]
        omega
      · have h2 : ¬ (k ≠ 0 ∧ p k < m + 1) := by omega
        rw [if_neg h1, if_neg h2]
        omega

include hp in
/-- No readings that are allowed cost less. -/
theorem dp_lower {rd : Nat → Int} (hrd : ∀ i, ok3 (rd i)) : ∀ (k : Nat) (b : Cost), (∀ i, i < k + 1 → al i (rd i) = true) → dpRun M al p (k + 1) b 0 (rd 0) ≤ sumB b rd (k + 1) + chg p rd k
  | 0, b, ha => by
    show dpStep M al p 0 b 0 (rd 0) ≤ _
    rw [dpStep_self hp, forb_al (ha 0 (by omega))]
    simp [sumB, chg]
  | k + 1, b, ha => by
    rw [dpRun]
    have ih := dp_lower hrd k (dpStep M al p (k + 1) b) fun i hi => ha i (by omega)
    rw [sum_step rd (k + 1) b (k + 1) (Nat.le_refl _)] at ih
    have hpk := hp (k + 1) (by omega)
    rw [if_pos ⟨by omega, hpk⟩] at ih
    have h1 := leastF_le (M := M) (f := forb M al (k + 1) b (k + 1)) (r := rd (p (k + 1))) (hrd (k + 1))
    rw [forb_al (ha (k + 1) (by omega))] at h1
    simp only [sumB, chg] at ih ⊢
    omega
include hp in
/-- Readings of which each is the best one for that of the parent cost just so much. -/
theorem dp_equal {rd : Nat → Int} : ∀ (k : Nat) (b : Cost), (∀ i, i < k + 1 → al i (rd i) = true) → (∀ i, 1 ≤ i → i < k + 1 → leastF M (dpRun M al p (k + 1) b i) (rd (p i)) = dpRun M al p (k + 1) b i (rd i) + dd (rd i) (rd (p i))) →
    dpRun M al p (k + 1) b 0 (rd 0) = sumB b rd (k + 1) + chg p rd k
  | 0, b, ha, _ => by
    show dpStep M al p 0 b 0 (rd 0) = _
    rw [dpStep_self hp, forb_al (ha 0 (by omega))]
    simp [sumB, chg]
  | k + 1, b, ha, hb => by
    rw [dpRun]
    have hk := hb (k + 1) (by omega) (by omega)
    rw [dpRun, dpRun_keep hp (k + 1) _ (k + 1) (Nat.le_refl _), dpStep_self hp, forb_al (ha (k + 1) (by omega))] at hk
    have ih := dp_equal k (dpStep M al p (k + 1) b) (fun i hi => ha i (by omega)) fun i h1 h2 => by
      have := hb i h1 (by omega)
      rwa [dpRun] at this
    rw [sum_step rd (k + 1) b (k + 1) (Nat.le_refl _)] at ih
    have hpk := hp (k + 1) (by omega)
    rw [if_pos ⟨by omega, hpk⟩] at ih
    simp only [sumB, chg] at ih ⊢
    omega

def sumU (u : Nat → Int) : Nat → Int
  | 0 => 0
  | i + 1 => sumU u i + u i
theorem sumU_nn {u : Nat → Int} (h : ∀ j, 0 ≤ u j) : ∀ k, 0 ≤ sumU u k
  | 0 => Int.le_refl 0
  | k + 1 => by have := sumU_nn h k; have := h k; simp only [sumU]; omega
theorem sumU_raise {u : Nat → Int} {q : Nat} {x : Int} (hx : 0 ≤ x) : ∀ k, sumU (fun j => if j = q then u j + x else u j) k ≤ sumU u k + if q < k then x else 0
  | 0 => by simp [sumU]
  | k + 1 => by
    have ih := sumU_raise (u := u) (q := q) hx k
    simp only [sumU]
    by_cases h : k = q
    · subst h
      rw [if_neg (by omega)] at ih
      rw [if_pos rfl, if_pos (by omega)]
      omega
    · rw [if_neg h]
      by_cases h2 : q < k
      · rw [if_pos h2] at ih
        rw [if_pos (by omega)]
        omega
      · rw [if_neg h2] at ih
        rw [if_neg (by omega)]
        omega
include hp in
/-- What is allowed stays cheap. -/
theorem dp_bound (hal : ∀ j, ∃ q, ok3 q ∧ al j q = true) : ∀ (k : Nat) (b : Cost) (u : Nat → Int), (∀ j, 0 ≤ u j) → (∀ j r, j < k → ok3 r → al j r = true → b j r ≤ u j) → ∀ j r, j < k → ok3 r → al j r = true → dpRun M al p k b j r ≤ sumU u k + k
  | 0, b, u, _, _, j, r, hj, _, _ => by omega
  | k + 1, b, u, hu, hb, j, r, hj, hr, ha => by
    rw [dpRun]
    have hsk := sumU_nn hu k
    have huk := hu k
    by_cases hjk : j = k
    · subst hjk
      rw [dpRun_keep hp j _ j (Nat.le_refl _), dpStep_self hp, forb_al ha]
      have := hb j r (by omega) hr ha
      simp only [sumU]
      omega
    · by_cases h0 : k = 0
      · omega
      · have hpk := hp k (by omega)
        obtain ⟨q, hq, hqa⟩ := hal k
        have hbq := hb k q (by omega) hq hqa
        have ih := dp_bound hal k (dpStep M al p k b) (fun j => if j = p k then u j + (u k + 1) else u j) (fun j => by
          have := hu j
          split <;> omega) (fun j r hj hr ha => by
          have hbj := hb j r (by omega) hr ha
          unfold dpStep
          by_cases e : j = p k
          · rw [if_pos ⟨h0, e⟩, if_pos e, forb_other (by omega)]
            have h1 := leastF_le (M := M) (f := forb M al k b k) (r := r) hq
            rw [forb_al hqa] at h1
            have := dd_le q r
            omega
          · rw [if_neg (fun h => e h.2), if_neg e, forb_other (by omega)]
            exact hbj) j r (by omega) hr ha
        have hs := sumU_raise (u := u) (q := p k) (x := u k + 1) (by omega) k
        rw [if_pos hpk] at hs
        simp only [sumU]
        omega
include hp in
/-- What is forbidden costs M. -/
theorem dp_forbidden {i : Nat} {q : Int} (hq : al i q = false) : ∀ (k : Nat) (b : Cost), i < k → dpRun M al p k b i q = M
  | k + 1, b, h => by
    rw [dpRun]
    by_cases e : i = k
    · subst e
      rw [dpRun_keep hp _ _ _ (Nat.le_refl _), dpStep_self hp]
      simp [forb, hq]
    · exact dp_forbidden hq k _ (by omega)
theorem forb_nn (hM : 0 ≤ M) {b : Cost} (h : ∀ j r, 0 ≤ b j r) (i j : Nat) (r : Int) : 0 ≤ forb M al i b j r := by
  unfold forb
  split
  · exact hM
  · exact h j r
theorem dp_nn (hM : 0 ≤ M) : ∀ (k : Nat) (b : Cost), (∀ j r, 0 ≤ b j r) → ∀ j r, 0 ≤ dpRun M al p k b j r
  | 0, b, h, j, r => h j r
  | k + 1, b, h, j, r => by
    rw [dpRun]
    refine dp_nn hM k _ (fun j r => ?_) j r
    unfold dpStep
    have h1 := forb_nn (al := al) hM h k
    split
    · have := h1 j r
      have := leastF_nn (M := M) (f := forb M al k b k) (r := r) hM (h1 k)
      omega
    · exact h1 j r
end

/-! ### the readings, from the first node on -/
/-- One reading more is looked at: the best one that is allowed, the first of equals. -/
def rnd (g : Int → Int) (al : Int → Bool) (s : Int × Int) (r : Int) : Int × Int := if al r = false then s else if s.1 < 0 ∨ g r < s.1 then (g r, r) else s
def pick (g : Int → Int) (al : Int → Bool) : Int := (rnd g al (rnd g al (rnd g al (-1, 0) 0) 1) 2).2
theorem pick_best {g : Int → Int} {al : Int → Bool} (hg : ∀ r, 0 ≤ g r) (h : ∃ q, ok3 q ∧ al q = true) : ok3 (pick g al) ∧ al (pick g al) = true ∧ ∀ q, ok3 q → al q = true → g (pick g al) ≤ g q := by
  obtain ⟨q, hq, hqa⟩ := h
  have g0 := hg 0
  have g1 := hg 1
  have g2 := hg 2
  have key : ∀ x : Int, ok3 x → al x = true → (∀ q, ok3 q → al q = true → g x ≤ g q) → pick g al = x → ok3 (pick g al) ∧ al (pick g al) = true ∧ ∀ q, ok3 q → al q = true → g (pick g al) ≤ g q := by
    intro x h1 h2 h3 e
    rw [e]; exact ⟨h1, h2, h3⟩
  have all : ∀ {x : Int}, (al 0 = true → g x ≤ g 0) → (al 1 = true → g x ≤ g 1) → (al 2 = true → g x ≤ g 2) → ∀ q, ok3 q → al q = true → g x ≤ g q := by
    intro x h0 h1 h2 q hq ha
    rcases hq with rfl | rfl | rfl
    · exact h0 ha
    · exact h1 ha
    · exact h2 ha
  have n0 : ¬ g 0 < 0 := by omega
  have n1 : ¬ g 1 < 0 := by omega
  have n2 : ¬ g 2 < 0 := by omega
  cases a0 : al 0 <;> cases a1 : al 1 <;> cases a2 : al 2
  · rcases hq with rfl | rfl | rfl <;> simp_all
  · exact key 2 (.inr (.inr rfl)) a2 (all (by simp [a0]) (by simp [a1]) (by simp)) (by simp [pick, rnd, a0, a1, a2])
  · exact key 1 (.inr (.inl rfl)) a1 (all (by simp [a0]) (by simp) (by simp [a2])) (by simp [pick, rnd, a0, a1, a2])
  · by_cases c : g 2 < g 1
    · exact key 2 (.inr (.inr rfl)) a2 (all (by simp [a0]) (by intro _; omega) (by simp)) (by simp [pick, rnd, a0, a1, a2, c, n0, n1, n2])
    · exact key 1 (.inr (.inl rfl)) a1 (all (by simp [a0]) (by simp) (by intro _; omega)) (by simp [pick, rnd, a0, a1, a2, c, n0, n1, n2])
  · exact key 0 (.inl rfl) a0 (all (by simp) (by simp [a1]) (by simp [a2])) (by simp [pick, rnd, a0, a1, a2])
  · by_cases c : g 2 < g 0
    · exact key 2 (.inr (.inr rfl)) a2 (all (by intro _; omega) (by simp [a1]) (by simp)) (by simp [pick, rnd, a0, a1, a2, c, n0, n1, n2])
    · exact key 0 (.inl rfl) a0 (all (by simp) (by simp [a1]) (by intro _; omega)) (by simp [pick, rnd, a0, a1, a2, c, n0, n1, n2])
  · by_cases c : g 1 < g 0
    · exact key 1 (.inr (.inl rfl)) a1 (all (by intro _; omega) (by simp) (by simp [a2])) (by simp [pick, rnd, a0, a1, a2, c, n0, n1, n2])
    · exact key 0 (.inl rfl) a0 (all (by simp) (by intro _; omega) (by simp [a2])) (by simp [pick, rnd, a0, a1, a2, c, n0, n1, n2])
  · have n0 : ¬ g 0 < 0 := by omega
    have n1 : ¬ g 1 < 0 := by omega
    by_cases c : g 1 < g 0
    · by_cases d : g 2 < g 1
      · exact key 2 (.inr (.inr rfl)) a2 (all (by intro _; omega) (by intro _; omega) (by simp)) (by simp [pick, rnd, a0, a1, a2, c, d])
      · exact key 1 (.inr (.inl rfl)) a1 (all (by intro _; omega) (by simp) (by intro _; omega)) (by simp [pick, rnd, a0, a1, a2, c, d, n0, n1])
    · by_cases d : g 2 < g 0
      · exact key 2 (.inr (.inr rfl)) a2 (all (by intro _; omega) (by intro _; omega) (by simp)) (by simp [pick, rnd, a0, a1, a2, c, d, n0])
      · exact key 0 (.inl rfl) a0 (all (by simp) (by intro _; omega) (by intro _; omega)) (by simp [pick, rnd, a0, a1, a2, c, d, n0])

/-- The cost of a reading of a node, its parent's reading known. -/
def seenF (F : Cost) (p : Nat → Nat) (o : List Int) (i : Nat) (r : Int) : Int := F i r + if i = 0 then 0 else dd r (el o (p i))
def topD (F : Cost) (al : Nat → Int → Bool) (p : Nat → Nat) : Nat → List Int
  | 0 => []
  | i + 1 => topD F al p i ++ [pick (seenF F p (topD F al p i) i) (al i)]
theorem topD_len (F : Cost) (al : Nat → Int → Bool) (p : Nat → Nat) : ∀ i, (topD F al p i).length = i
  | 0 => rfl
  | i + 1 => by simp [topD, topD_len F al p i]
theorem el_app_lt {α : Type} [Inhabited α] (a b : List α) (i : Nat) (h : i < a.length) : el (a ++ b) i = el a i := by
  unfold el; rw [List.getD_eq_getElem?_getD, List.getD_eq_getElem?_getD, List.getElem?_append_left h]
theorem el_app_len {α : Type} [Inhabited α] (a : List α) (x : α) : el (a ++ [x]) a.length = x := by
  unfold el; rw [List.getD_eq_getElem?_getD, List.getElem?_append_right (Nat.le_refl _)]; simp
theorem topD_el (F : Cost) (al : Nat → Int → Bool) (p : Nat → Nat) (i : Nat) : ∀ n, i < n → el (topD F al p n) i = el (topD F al p (i + 1)) i
  | n + 1, h => by
    by_cases e : i = n
    · subst e; rfl
    · rw [topD, el_app_lt _ _ _ (by rw [topD_len]; omega)]
      exact topD_el F al p i n (by omega)
theorem topD_pick (F : Cost) (al : Nat → Int → Bool) (p : Nat → Nat) (hp : ∀ i, 1 ≤ i → p i < i) (n i : Nat) (h : i < n) : el (topD F al p n) i = pick (seenF F p (topD F al p n) i) (al i) := by
  rw [topD_el F al p i n h, topD]
  have := el_app_len (topD F al p i) (pick (seenF F p (topD F al p i) i) (al i))
  rw [topD_len] at this
  rw [this]
  congr 1
  funext r
  unfold seenF
  by_cases h0 : i = 0
  · simp [h0]
  · rw [if_neg h0, if_neg h0]
    have hpi := hp i (by omega)
    rw [topD_el F al p (p i) n (by omega), topD_el F al p (p i) i hpi]

section
variable {M : Int} {al : Nat → Int → Bool} {p : Nat → Nat} (hp : ∀ i, 1 ≤ i → p i < i) (hal : ∀ j, ∃ q, ok3 q ∧ al j q = true)
include hp hal in
/-- The readings from the first node on are allowed, and no allowed ones cost less. -/
theorem topD_best {b : Cost} {u : Nat → Int} (hb0 : ∀ j r, 0 ≤ b j r) (hu : ∀ j, 0 ≤ u j) (k : Nat) (hb : ∀ j r, j < k + 1 → ok3 r → al j r = true → b j r ≤ u j) (hM : sumU u (k + 1) + (k + 1) < M) {F : Cost} (hF : F = dpRun M al p (k + 1) b) {o : List Int} (ho : o = topD F al p (k + 1)) :
    (∀ i, i < k + 1 → ok3 (el o i) ∧ al i (el o i) = true) ∧ F 0 (el o 0) = sumB b (el o) (k + 1) + chg p (el o) k ∧ (∀ q, ok3 q → al 0 q = true → F 0 (el o 0) ≤ F 0 q) := by
  have hM0 : 0 ≤ M := by have := sumU_nn hu (k + 1); omega
  have hF0 : ∀ j r, 0 ≤ F j r := by rw [hF]; exact dp_nn hM0 (k + 1) b hb0
  have hFb : ∀ j r, j < k + 1 → ok3 r → al j r = true → F j r ≤ sumU u (k + 1) + ((k + 1 : Nat) : Int) := by rw [hF]; exact dp_bound hp hal (k + 1) b u hu hb
  have hs0 : ∀ i r, 0 ≤ seenF F p o i r := by
    intro i r
    unfold seenF
    have := hF0 i r
    split
    · omega
    · have := dd_nn r (el o (p i)); omega
  have hpk : ∀ i, i < k + 1 → ok3 (el o i) ∧ al i (el o i) = true ∧ ∀ q, ok3 q → al i q = true → seenF F p o i (el o i) ≤ seenF F p o i q := by
    intro i hi
    have e : el o i = pick (seenF F p o i) (al i) := by rw [ho]; exact topD_pick F al p hp (k + 1) i hi
    have := pick_best (g := seenF F p o i) (al := al i) (hs0 i) (hal i)
    rw [← e] at this
    exact this
  refine ⟨fun i hi => ⟨(hpk i hi).1, (hpk i hi).2.1⟩, ?_, ?_⟩
  · rw [hF]
    refine dp_equal hp k b (fun i hi => (hpk i hi).2.1) fun i h1 h2 => ?_
    rw [← hF]
    obtain ⟨a1, a2, a3⟩ := hpk i h2
    have hbest : ∀ q, ok3 q → al i q = true → F i (el o i) + dd (el o i) (el o (p i)) ≤ F i q + dd q (el o (p i)) := by
      intro q h3 h4
      have := a3 q h3 h4
      unfold seenF at this
      rw [if_neg (by omega), if_neg (by omega)] at this
      exact this
    have hsmall := hFb i (el o i) h2 a1 a2
    have hdd := dd_le (el o i) (el o (p i))
    refine Int.le_antisymm (leastF_le a1) (leastF_ge (by omega) fun q hq => ?_)
    cases hqa : al i q with
    | true => exact hbest q hq hqa
    | false =>
      have hFM : F i q = M := by rw [hF]; exact dp_forbidden hp hqa (k + 1) b h2
      have := dd_nn q (el o (p i))
      omega
  · intro q h1 h2
    have := (hpk 0 (by omega)).2.2 q h1 h2
    unfold seenF at this
    simpa using this
end
end Go.Proofs.Ytnpkaemlidifgaa
end

section
/- Plain: the fewest changes by both ways are the same; how many different members a list has. -/
namespace Go.Proofs.Ytnpkaemlidifgaa
open Go.Abs Go

/-! ### different members -/
/-- The members of a list that are not in another one, each once. -/
def freshL {α : Type} [DecidableEq α] : List α → List α → List α
  | _, [] => []
  | s, x :: l => if x ∈ s then freshL s l else x :: freshL (x :: s) l
theorem mem_freshL {α : Type} [DecidableEq α] {x : α} : ∀ {l s : List α}, x ∈ freshL s l ↔ x ∈ l ∧ x ∉ s
  | [], s => by simp [freshL]
  | y :: l, s => by
    rw [freshL]
    split
    · rename_i h
      rw [mem_freshL, List.mem_cons]
      constructor
      · rintro ⟨h1, h2⟩; exact ⟨.inr h1, h2⟩
      · rintro ⟨rfl | h1, h2⟩
        · exact absurd h h2
        · exact ⟨h1, h2⟩
    · rename_i h
      rw [List.mem_cons, mem_freshL, List.mem_cons, List.mem_cons, not_or]
      constructor
      · rintro (rfl | ⟨h1, h2, h3⟩)
        · exact ⟨.inl rfl, h⟩
        · exact ⟨.inr h1, h3⟩
      · rintro ⟨rfl | h1, h2⟩
        · exact .inl rfl
        · by_cases e : x = y
          · exact .inl e
          · exact .inr ⟨h1, e, h2⟩
theorem nodup_freshL {α : Type} [DecidableEq α] : ∀ {l s : List α}, (freshL s l).Nodup
  | [], s => by simp [freshL]
  | y :: l, s => by
    rw [freshL]
    split
    · exact nodup_freshL
    · rw [List.nodup_cons]
      refine ⟨fun h => ?_, nodup_freshL⟩
      have := (mem_freshL.1 h).2
      simp at this
theorem nodup_le {α : Type} [DecidableEq α] : ∀ {l m : List α}, l.Nodup → (∀ x ∈ l, x ∈ m) → l.length ≤ m.length
  | [], m, _, _ => by simp
  | x :: l, m, h, hs => by
    rw [List.nodup_cons] at h
    have hx := hs x (by simp)
    have h1 : l.length ≤ (m.erase x).length := nodup_le h.2 fun y hy => (List.mem_erase_of_ne (fun e => h.1 (by rw [← e]; exact hy))).2 (hs y (by simp [hy]))
    rw [List.length_erase_of_mem hx] at h1
    have : 0 < m.length := List.length_pos_of_mem hx
    simp only [List.length_cons]
    omega
theorem nodup_same {α : Type} [DecidableEq α] {l m : List α} (h : l.Nodup) (h' : m.Nodup) (hs : ∀ x, x ∈ l ↔ x ∈ m) : l.length = m.length :=
  Nat.le_antisymm (nodup_le h fun x => (hs x).1) (nodup_le h' fun x => (hs x).2)
/-- How many different members a list has. -/
def diffN {α : Type} [DecidableEq α] (l : List α) : Nat := (freshL [] l).length
theorem diffN_of {α : Type} [DecidableEq α] {l m : List α} (h : m.Nodup) (hs : ∀ x, x ∈ m ↔ x ∈ l) : diffN l = m.length :=
  nodup_same nodup_freshL h fun x => by rw [mem_freshL, hs]; simp
theorem diffN_le {α : Type} [DecidableEq α] {l m : List α} (hs : ∀ x ∈ l, x ∈ m) : diffN l ≤ diffN m :=
  nodup_le nodup_freshL fun x hx => mem_freshL.2 ⟨hs x (mem_freshL.1 hx).1, by simp⟩
theorem diffN_congr {α : Type} [DecidableEq α] {l m : List α} (hs : ∀ x, x ∈ l ↔ x ∈ m) : diffN l = diffN m :=
  Nat.le_antisymm (diffN_le fun x => (hs x).1) (diffN_le fun x => (hs x).2)
theorem diffN_cons {α : Type} [DecidableEq α] (x : α) (l : List α) : diffN (x :: l) = if x ∈ l then diffN l else diffN l + 1 := by
  by_cases h : x ∈ l
  · rw [if_pos h]
    exact diffN_congr fun y => by
      rw [List.mem_cons]
      constructor
      · rintro (rfl | hy)
        · exact h
        · exact hy
      · exact .inr
  · rw [if_neg h]
    have : (x :: freshL [] l).Nodup := by
      rw [List.nodup_cons]
      exact ⟨fun hx => h (mem_freshL.1 hx).1, nodup_freshL⟩
    rw [diffN_of this fun y => by simp [mem_freshL]]
    simp [diffN]
theorem diffN_len {α : Type} [DecidableEq α] (l : List α) : diffN l ≤ l.length := nodup_le nodup_freshL fun x hx => (mem_freshL.1 hx).1
theorem diffN_nil {α : Type} [DecidableEq α] : diffN ([] : List α) = 0 := rfl
/-! ### trees -/
def pf (par : List Int) (i : Nat) : Nat := min (el par i).toNat (i - 1)
theorem pf_lt (par : List Int) (i : Nat) (h : 1 ≤ i) : pf par i < i := by unfold pf; omega
/-- The number of different readings of the first nodes is at most one more than their changes. -/
theorem diff_chg {p : Nat → Nat} (hp : ∀ i, 1 ≤ i → p i < i) (rd : Nat → Int) : ∀ k, (diffN ((List.range (k + 1)).map rd) : Int) ≤ 1 + chg p rd k
  | 0 => by simp [diffN_cons, diffN_nil, chg]
  | k + 1 => by
    have ih := diff_chg hp rd k
    have e : ∀ y, y ∈ (List.range (k + 1 + 1)).map rd ↔ y ∈ rd (k + 1) :: (List.range (k + 1)).map rd := by
      intro y
      rw [List.range_succ, List.map_append, List.mem_append, List.mem_cons]
      simp [or_comm]
    rw [diffN_congr e, diffN_cons]
    have hdn := dd_nn (rd (k + 1)) (rd (p (k + 1)))
    simp only [chg]
    split
    · omega
    · rename_i hn
      have hne : rd (k + 1) ≠ rd (p (k + 1)) := fun e => hn (by
        rw [e]
        exact List.mem_map.2 ⟨p (k + 1), List.mem_range.2 (by have := hp (k + 1) (by omega); omega), rfl⟩)
      have : dd (rd (k + 1)) (rd (p (k + 1))) = 1 := by unfold dd; rw [if_neg hne]
      rw [this]
      omega

/-! ### copies at nodes -/
/-- The readings that copies fix, a pair of node and reading for each; none if two differ at a node. -/
def fixF : List Int → List (Int × Int) → Option (List Int)
  | own, [] => some own
  | own, (n, v) :: l => if 0 ≤ el own n.toNat ∧ el own n.toNat ≠ v then none else fixF (own.set n.toNat v) l
def fits (rd : Nat → Int) (l : List (Int × Int)) : Prop := ∀ x ∈ l, rd x.1.toNat = x.2
structure PairsOK (N : Nat) (l : List (Int × Int)) : Prop where
  node : ∀ x ∈ l, 0 ≤ x.1 ∧ x.1.toNat < N
  val : ∀ x ∈ l, ok3 x.2
theorem ok3_nn {r : Int} (h : ok3 r) : 0 ≤ r := by rcases h with rfl | rfl | rfl <;> decide
theorem PairsOK.tail {N : Nat} {x : Int × Int} {l : List (Int × Int)} (h : PairsOK N (x :: l)) : PairsOK N l := ⟨fun y hy => h.node y (by simp [hy]), fun y hy => h.val y (by simp [hy])⟩
theorem el_put {α : Type} [Inhabited α] (o : List α) (i k : Nat) (v : α) (hi : i < o.length) : el (o.set i v) k = if i = k then v else el o k := by
  unfold el
  rw [List.getD_eq_getElem?_getD, List.getD_eq_getElem?_getD, List.getElem?_set]
  by_cases h : i = k
  · subst h; simp [hi]
  · simp [h]
theorem fix_some {N : Nat} : ∀ {l : List (Int × Int)} {own own' : List Int}, PairsOK N l → own.length = N → fixF own l = some own' →
    own'.length = N ∧ (∀ i, 0 ≤ el own i → el own' i = el own i) ∧ (∀ x ∈ l, el own' x.1.toNat = x.2) ∧ ∀ i, 0 ≤ el own' i → el own' i = el own i ∨ ∃ x ∈ l, x.1.toNat = i ∧ x.2 = el own' i
  | [], own, own', _, hl, h => by
    simp only [fixF, Option.some.injEq] at h
    subst h
    exact ⟨hl, fun _ _ => rfl, by simp, fun _ _ => .inl rfl⟩
  | (n, v) :: l, own, own', hok, hl, h => by
    have hn := hok.node (n, v) (by simp)
    have hv := ok3_nn (hok.val (n, v) (by simp))
    dsimp only at hn hv
    rw [fixF] at h
    split at h
    · cases h
    · rename_i hc
      have hi : n.toNat < own.length := by omega
      obtain ⟨h1, h2, h3, h4⟩ := fix_some hok.tail (by rw [List.length_set]; exact hl) h
      have hnv : el own' n.toNat = v := by
        have := h2 n.toNat (by rw [el_put _ _ _ _ hi, if_pos rfl]; exact hv)
        rw [this, el_put _ _ _ _ hi, if_pos rfl]
      refine ⟨h1, fun i hi0 => ?_, fun x hx => ?_, fun i hi0 => ?_⟩
      · by_cases e : n.toNat = i
        · subst e
          rw [hnv]
          apply Classical.byContradiction
          intro hne
          exact hc ⟨hi0, fun e => hne e.symm⟩
        · have := h2 i (by rw [el_put _ _ _ _ hi, if_neg e]; exact hi0)
          rw [this, el_put _ _ _ _ hi, if_neg e]
      · rcases List.mem_cons.1 hx with rfl | hx
        · exact hnv
        · exact h3 x hx
      · rcases h4 i hi0 with e | ⟨x, hx, e1, e2⟩
        · rw [el_put _ _ _ _ hi] at e
          split at e
          · rename_i e2
            exact .inr ⟨(n, v), by simp, e2, e.symm⟩
          · exact .inl e
        · exact .inr ⟨x, by simp [hx], e1, e2⟩
/-! ### both ways -/
/-- What a node may read. -/
def alM (own : List Int) (i : Nat) (r : Int) : Bool := decide (el own i < 0 ∨ el own i = r)
def zeroC : Cost := fun _ _ => 0
/-- The program's costs, and the readings that it takes. -/
def costP (par own : List Int) : Cost := dpRun 17 (alM own) (pf par) par.length zeroC
def readM (par own : List Int) : List Int := topD (costP par own) (alM own) (pf par) par.length
def bestR (par : List Int) (l : List (Int × Int)) : Option (List Int) := (fixF (List.replicate par.length (-1)) l).map (readM par)
/-- The changes of readings. -/
def chgM (par rd : List Int) : Int := chg (pf par) (el rd) (par.length - 1)
structure TreeOK (par : List Int) (l : List (Int × Int)) : Prop where
  pos : 1 ≤ par.length
  top : par.length ≤ 16
  pairs : PairsOK par.length l
  num : l.length ≤ 6
theorem el_minus (n i : Nat) : el (List.replicate n (-1 : Int)) i = -1 ∨ el (List.replicate n (-1 : Int)) i = 0 ∧ n ≤ i := by
  unfold el
  rw [List.getD_eq_getElem?_getD, List.getElem?_replicate]
  by_cases h : i < n
  · simp [h]
  · simp [h]; omega
theorem al_has {par : List Int} {l : List (Int × Int)} (h : TreeOK par l) {own : List Int} (hf : fixF (List.replicate par.length (-1)) l = some own) (j : Nat) : ∃ q, ok3 q ∧ alM own j q = true := by
  obtain ⟨h1, h2, h3, h4⟩ := fix_some h.pairs (by simp) hf
  by_cases hj : el own j < 0
  · exact ⟨0, .inl rfl, by simp [alM, hj]⟩
  · refine ⟨el own j, ?_, by simp [alM]⟩
    rcases h4 j (by omega) with e | ⟨x, hx, _, e⟩
    · rcases el_minus par.length j with e2 | ⟨e2, _⟩
      · rw [e2] at e; omega
      · rw [e2] at e; rw [e]; exact .inl rfl
    · rw [← e]; exact h.pairs.val x hx
theorem al_fits {par : List Int} {l : List (Int × Int)} (h : TreeOK par l) {own : List Int} (hf : fixF (List.replicate par.length (-1)) l = some own) {rd : Nat → Int} : (∀ i, i < par.length → alM own i (rd i) = true) ↔ fits rd l := by
  obtain ⟨h1, h2, h3, h4⟩ := fix_some h.pairs (by simp) hf
  constructor
  · intro ha x hx
    have hn := h.pairs.node x hx
    have := ha x.1.toNat hn.2
    have hv := ok3_nn (h.pairs.val x hx)
    unfold alM at this
    rw [h3 x hx] at this
    simp only [decide_eq_true_eq] at this
    omega
  · intro hfit i hi
    unfold alM
    simp only [decide_eq_true_eq]
    by_cases hj : el own i < 0
    · exact .inl hj
    · rcases h4 i (by omega) with e | ⟨x, hx, e1, e⟩
      · rcases el_minus par.length i with e2 | ⟨_, e2⟩
        · rw [e2] at e; omega
        · omega
      · have := hfit x hx
        rw [e1] at this
        exact .inr (by rw [this, e])
theorem readM_len (par own : List Int) : (readM par own).length = par.length := topD_len _ _ _ _
/-- The readings that the program takes are right, and none have fewer changes. -/
theorem best_is {par : List Int} {l : List (Int × Int)} (h : TreeOK par l) {own : List Int} (hf : fixF (List.replicate par.length (-1)) l = some own) :
    (∀ i, i < par.length → ok3 (el (readM par own) i)) ∧ fits (el (readM par own)) l ∧ ∀ rd : Nat → Int, (∀ i, ok3 (rd i)) → fits rd l → chgM par (readM par own) ≤ chg (pf par) rd (par.length - 1) := by
  obtain ⟨k, hk⟩ : ∃ k, par.length = k + 1 := ⟨par.length - 1, by have := h.pos; omega⟩
  have hsz : ∀ k, sumU (fun _ => 0) k = 0 := by
    intro k
    induction k with
    | zero => rfl
    | succ k ih => simp only [sumU, ih]; rfl
  have hsb : ∀ (rd : Nat → Int) k, sumB zeroC rd k = 0 := by
    intro rd k
    induction k with
    | zero => rfl
    | succ k ih => simp only [sumB, ih]; rfl
  have hF : costP par own = dpRun 17 (alM own) (pf par) (k + 1) zeroC := by unfold costP; rw [hk]
  have ho : readM par own = topD (costP par own) (alM own) (pf par) (k + 1) := by unfold readM; rw [hk]
  have htop := h.top
  obtain ⟨b1, b2, b3⟩ := topD_best (M := 17) (al := alM own) (p := pf par) (pf_lt par) (al_has h hf) (b := zeroC) (u := fun _ => 0) (fun _ _ => Int.le_refl 0) (fun _ => Int.le_refl 0) k (fun _ _ _ _ _ => Int.le_refl 0) (by rw [hsz]; omega) hF ho
  refine ⟨fun i hi => (b1 i (by omega)).1, (al_fits h hf).1 fun i hi => (b1 i (by omega)).2, fun rd hrd hfit => ?_⟩
  have hal := (al_fits h hf).2 hfit
  have h1 := dp_lower (M := 17) (al := alM own) (p := pf par) (pf_lt par) hrd k zeroC fun i hi => hal i (by omega)
  have h2 := b3 (rd 0) (hrd 0) (hal 0 (by omega))
  rw [← hF] at h1
  rw [hsb] at h1 b2
  unfold chgM
  have e : par.length - 1 = k := by omega
  rw [e]
  omega
/-- At least one change for each reading but one. -/
theorem diff_few {par rd : List Int} {l : List (Int × Int)} (h : TreeOK par l) (hfit : fits (el rd) l) : (diffN (l.map (·.2)) : Int) ≤ 1 + chgM par rd := by
  have h1 := diff_chg (pf_lt par) (el rd) (par.length - 1)
  have h2 : diffN (l.map (·.2)) ≤ diffN ((List.range (par.length - 1 + 1)).map (el rd)) := by
    refine diffN_le fun y hy => ?_
    obtain ⟨x, hx, rfl⟩ := List.mem_map.1 hy
    have hn := h.pairs.node x hx
    have := h.pos
    exact List.mem_map.2 ⟨x.1.toNat, List.mem_range.2 (by omega), hfit x hx⟩
  unfold chgM
  omega
end Go.Proofs.Ytnpkaemlidifgaa
end

section
/- Plain: words in ascending order; a list into which words are put in order; words by a queue and by going deep are the same. -/
namespace Go.Proofs.Ytnpkaemlidifgaa
open Go.Abs Go

theorem el_mem_of {α : Type} [Inhabited α] (o : List α) (k : Nat) (h : k < o.length) : el o k ∈ o := by rw [el_eq o k h]; exact List.getElem_mem h
end Go.Proofs.Ytnpkaemlidifgaa
end

section
/- Plain: readings of copies: errors, columns, sides, conflicts. -/
namespace Go.Proofs.Ytnpkaemlidifgaa
open Go.Abs Go

def okR (n : Int) : Bool := decide (0 ≤ n) && decide (n ≤ 2)
def rowBad (k : Nat) (r : List Int) : Bool := decide (r.length ≠ k) || r.any fun n => !okR n
/-- The first error of readings. -/
def vErr (t : List (List Int)) : Int :=
  if t.length = 0 ∨ 6 < t.length then 3 else if 6 < (el t 0).length then 3
  else if t.any (rowBad (el t 0).length) then 1 else 0
def wid (t : List (List Int)) : Nat := (el t 0).length
structure Rds (t : List (List Int)) : Prop where
  pos : 1 ≤ t.length
  num : t.length ≤ 6
  w6 : wid t ≤ 6
  rows : ∀ r ∈ t, r.length = wid t
  rd : ∀ r ∈ t, ∀ x ∈ r, 0 ≤ x ∧ x ≤ 2
theorem vErr_zero {t : List (List Int)} (h : vErr t = 0) : Rds t := by
  unfold vErr at h
  split at h
  · cases h
  · rename_i h1
    split at h
    · cases h
    · rename_i h2
      split at h
      · cases h
      · rename_i h3
        have h3' : ∀ r ∈ t, rowBad (el t 0).length r = false := by
          intro r hr
          cases hb : rowBad (el t 0).length r with
          | false => rfl
          | true => exact absurd (List.any_eq_true.2 ⟨r, hr, hb⟩) h3
        refine ⟨by omega, by omega, by unfold wid; omega, fun r hr => ?_, fun r hr x hx => ?_⟩
        · have := h3' r hr
          simp only [rowBad, Bool.or_eq_false_iff, decide_eq_false_iff_not, Decidable.not_not] at this
          exact this.1
        · have := h3' r hr
          simp only [rowBad, Bool.or_eq_false_iff, List.any_eq_false, okR] at this
          have := this.2 x hx
          simpa using this
/-- The readings at a place. -/
def colM (t : List (List Int)) (p : Nat) : List Int := t.map fun r => el r p
theorem colM_len (t : List (List Int)) (p : Nat) : (colM t p).length = t.length := by simp [colM]
theorem el_map {α β : Type} [Inhabited α] [Inhabited β] (f : α → β) (l : List α) (i : Nat) (h : i < l.length) : el (l.map f) i = f (el l i) := by
  unfold el; simp [List.getD_eq_getElem?_getD, h]
theorem el_col {t : List (List Int)} {p i : Nat} (h : i < t.length) : el (colM t p) i = el (el t i) p := el_map _ _ _ h
theorem Rds.row {t : List (List Int)} (h : Rds t) {i : Nat} (hi : i < t.length) : (el t i).length = wid t := h.rows _ (el_mem_of t i hi)
theorem Rds.val {t : List (List Int)} (h : Rds t) {i p : Nat} (hi : i < t.length) (hp : p < wid t) : 0 ≤ el (el t i) p ∧ el (el t i) p ≤ 2 :=
  h.rd _ (el_mem_of t i hi) _ (el_mem_of _ p (by rw [h.row hi]; exact hp))
theorem Rds.col {t : List (List Int)} (h : Rds t) {p : Nat} (hp : p < wid t) : ∀ x ∈ colM t p, 0 ≤ x ∧ x ≤ 2 := by
  intro x hx
  obtain ⟨r, hr, rfl⟩ := List.mem_map.1 hx
  exact h.rd r hr _ (el_mem_of _ p (by rw [h.rows r hr]; exact hp))
/-- Whether a place is none. -/
def noPlace (t : List (List Int)) (p : Int) : Bool := !(decide (0 ≤ p) && decide (p ≤ (wid t : Int) - 1))
def placedErr (t : List (List Int)) (ps : List Int) : Int := if vErr t ≠ 0 then vErr t else if ps.any (noPlace t) then 4 else 0
def confM (t : List (List Int)) (p q : Nat) : Bool := decide (diffN (colM t p) = 2) && decide (diffN (colM t q) = 2) && decide (diffN ((colM t p).zip (colM t q)) = 4)
/-- The pairs from two places on that conflict. -/
def confsF (t : List (List Int)) (p : Nat) : Nat → Nat → List (Nat × Nat)
  | _, 0 => []
  | q, n + 1 => if confM t p q then (p, q) :: confsF t p (q + 1) n else confsF t p (q + 1) n
def confsG (t : List (List Int)) (w : Nat) : Nat → Nat → List (Nat × Nat)
  | _, 0 => []
  | p, n + 1 => confsF t p (p + 1) (w - (p + 1)) ++ confsG t w (p + 1) n
def confsM (t : List (List Int)) : List (Nat × Nat) := confsG t (wid t) 0 (wid t)
/-- At how many places two rows differ. -/
def apartF (a b : List Int) : Nat → Nat → Nat
  | _, 0 => 0
  | p, n + 1 => (if el a p ≠ el b p then 1 else 0) + apartF a b (p + 1) n
/-! ### trees -/
def parBad : Nat → List Int → Bool
  | _, [] => false
  | i, p :: l => (decide (0 < i) && !(decide (0 ≤ p) && decide (p ≤ (i : Int) - 1))) || parBad (i + 1) l
def treeErr (par ats : List Int) : Int :=
  if par.length = 0 ∨ 16 < par.length then 3 else if 6 < ats.length then 3 else if el par 0 ≠ -1 then 1 else if parBad 0 par then 1
  else if ats.any (fun n => !(decide (0 ≤ n) && decide (n ≤ (par.length : Int) - 1))) then 1 else 0
structure Treed (par ats : List Int) : Prop where
  pos : 1 ≤ par.length
  top : par.length ≤ 16
  num : ats.length ≤ 6
  root : el par 0 = -1
  parR : ∀ i, 1 ≤ i → i < par.length → 0 ≤ el par i ∧ el par i ≤ (i : Int) - 1
  atsR : ∀ n ∈ ats, 0 ≤ n ∧ n ≤ (par.length : Int) - 1
theorem parBad_get : ∀ {l : List Int} {i : Nat}, parBad i l = false → ∀ k, k < l.length → 0 < i + k → 0 ≤ el l k ∧ el l k ≤ ((i + k : Nat) : Int) - 1
  | p :: l, i, h, 0, hk, h0 => by
    simp only [parBad, Bool.or_eq_false_iff, Bool.and_eq_false_imp, decide_eq_true_eq] at h
    have := h.1 (by omega)
    simpa [el] using this
  | p :: l, i, h, k + 1, hk, h0 => by
    simp only [parBad, Bool.or_eq_false_iff] at h
    have := parBad_get (l := l) (i := i + 1) h.2 k (by simpa using hk) (by omega)
    rw [show i + 1 + k = i + (k + 1) by omega] at this
    exact this
theorem treeErr_zero {par ats : List Int} (h : treeErr par ats = 0) : Treed par ats := by
  unfold treeErr at h
  split at h
  · cases h
  · rename_i h1
    split at h
    · cases h
    · rename_i h2
      split at h
      · cases h
      · rename_i h3
        split at h
        · cases h
        · rename_i h4
          split at h
          · cases h
          · rename_i h5
            refine ⟨by omega, by omega, by omega, by simpa using h3, fun i h6 h7 => ?_, fun n hn => ?_⟩
            · have := parBad_get (by simpa using h4) i h7 (by omega)
              simpa using this
            · simp only [Bool.not_eq_true, List.any_eq_false] at h5
              have := h5 n hn
              simpa using this
theorem Treed.pfE {par ats : List Int} (h : Treed par ats) {i : Nat} (h1 : 1 ≤ i) (hi : i < par.length) : pf par i = (el par i).toNat ∧ ((pf par i : Nat) : Int) = el par i := by
  have := h.parR i h1 hi
  unfold pf
  omega
/-- The node and the reading of each copy. -/
def prs (t : List (List Int)) (ats : List Int) (p : Nat) : List (Int × Int) := ats.zip (colM t p)
theorem treeOK_of {t : List (List Int)} {par ats : List Int} (ht : Rds t) (hx : Treed par ats) (hl : ats.length = t.length) {p : Nat} (hp : p < wid t) : TreeOK par (prs t ats p) := by
  refine ⟨hx.pos, hx.top, ⟨fun x hm => ?_, fun x hm => ?_⟩, ?_⟩
  · have := hx.atsR x.1 (List.of_mem_zip hm).1
    have := hx.pos
    omega
  · have := ht.col hp x.2 (List.of_mem_zip hm).2
    unfold ok3; omega
  · have := hx.num
    simp only [prs, List.length_zip, colM_len]; omega
theorem prs_snd {t : List (List Int)} {ats : List Int} (hl : ats.length = t.length) (p : Nat) : (prs t ats p).map (·.2) = colM t p := by
  unfold prs
  rw [List.map_snd_zip]
  rw [colM_len]; omega
end Go.Proofs.Ytnpkaemlidifgaa
end

section
/- Plain: places conflict exactly if their sides do. -/
namespace Go.Proofs.Ytnpkaemlidifgaa
open Go.Abs Go

end Go.Proofs.Ytnpkaemlidifgaa
end

section
/- Plain: the greatest set, by both ways. -/
namespace Go.Proofs.Ytnpkaemlidifgaa
open Go.Abs Go

/-! ### the program's way -/
section
variable (t : List (List Int))
def splits (p : Nat) : Bool := decide (diffN (colM t p) = 2)
end
/-! ### the document's way -/
section
variable (t : List (List Int))
end
end Go.Proofs.Ytnpkaemlidifgaa
end

section
/- Plain: a tree out of sides of which no two cross, and that each place that splits changes once on it. -/
namespace Go.Proofs.Ytnpkaemlidifgaa
open Go.Abs Go

/-- Lists of copies, none empty; of two the later one is within the earlier one and not it, or they have nothing in common. -/
structure Nest (n : Nat) (L : List (List Int)) : Prop where
  pos : ∀ l ∈ L, 0 < l.length
  inn : ∀ l ∈ L, ∀ x ∈ l, 0 ≤ x ∧ x.toNat < n
  two : ∀ j k, j < k → k < L.length → (∀ x ∈ el L j, x ∉ el L k) ∨ ((∀ x ∈ el L k, x ∈ el L j) ∧ ∃ x ∈ el L j, x ∉ el L k)
/-! ### one change -/
section
variable {n : Nat} {L : List (List Int)} (h : Nest n L) {m : Nat} (hm : m < L.length) (a0 y : Int)
include h
include hm
end
end Go.Proofs.Ytnpkaemlidifgaa
end

section
/- Plain: conflicts of readings that are written otherwise, or that have a place or a copy less. -/
namespace Go.Proofs.Ytnpkaemlidifgaa
open Go.Abs Go

theorem confs_len (t : List (List Int)) (h : wid t ≤ 6) : (confsM t).length ≤ 36 := by
  have h1 : ∀ n q p : Nat, (confsF t p q n).length ≤ n := by
    intro n
    induction n with
    | zero => intro q p; simp [confsF]
    | succ n ih =>
      intro q p
      have := ih (q + 1) p
      rw [confsF]
      split
      · simp; omega
      · omega
  have h2 : ∀ n p : Nat, (confsG t (wid t) p n).length ≤ n * 6 := by
    intro n
    induction n with
    | zero => intro p; simp [confsG]
    | succ n ih =>
      intro p
      have a := ih (p + 1)
      have b := h1 (wid t - (p + 1)) (p + 1) p
      rw [confsG, List.length_append, Nat.succ_mul]
      omega
  have := h2 (wid t) 0
  unfold confsM
  omega
/-! ### written otherwise -/
theorem diffN_inj {α β : Type} [DecidableEq α] [DecidableEq β] (f : α → β) : ∀ (l : List α), (∀ x ∈ l, ∀ y ∈ l, f x = f y → x = y) → diffN (l.map f) = diffN l
  | [], _ => rfl
  | x :: l, h => by
    have ih := diffN_inj f l fun a ha b hb => h a (by simp [ha]) b (by simp [hb])
    rw [List.map_cons, diffN_cons, diffN_cons, ih]
    have : f x ∈ l.map f ↔ x ∈ l := by
      rw [List.mem_map]
      constructor
      · rintro ⟨y, hy, e⟩
        rw [← h y (by simp [hy]) x (by simp) e]; exact hy
      · intro hx; exact ⟨x, hx, rfl⟩
    by_cases hx : x ∈ l
    · rw [if_pos hx, if_pos (this.2 hx)]
    · rw [if_neg hx, if_neg (fun hc => hx (this.1 hc))]
theorem zip_mapB {α β γ δ : Type} (f : α → γ) (g : β → δ) : ∀ (a : List α) (b : List β), (a.map f).zip (b.map g) = (a.zip b).map fun x => (f x.1, g x.2)
  | [], b => rfl
  | x :: a, [] => rfl
  | x :: a, y :: b => by simp [zip_mapB f g a b]
/-- The readings at a place are replaced. -/
def spellM (t : List (List Int)) (p : Nat) (to : List Int) : List (List Int) := t.map fun r => r.set p (el to (el r p).toNat)
theorem spell_len (t : List (List Int)) (p : Nat) (to : List Int) : (spellM t p to).length = t.length := by simp [spellM]
theorem spell_wid {t : List (List Int)} (h : Rds t) (p : Nat) (to : List Int) : wid (spellM t p to) = wid t := by
  have := h.pos
  unfold wid spellM
  rw [el_map _ _ _ (by omega)]; simp
structure SpellOK (to : List Int) : Prop where
  len : to.length = 3
  rd : ∀ x ∈ to, 0 ≤ x ∧ x ≤ 2
  inj : ∀ i j, i < 3 → j < 3 → el to i = el to j → i = j
theorem spell_col {t : List (List Int)} (h : Rds t) {p : Nat} (hp : p < wid t) (to : List Int) (q : Nat) : colM (spellM t p to) q = if q = p then (colM t p).map fun x => el to x.toNat else colM t q := by
  unfold colM spellM
  rw [List.map_map]
  split
  · rename_i e
    subst e
    rw [List.map_map]
    refine List.map_congr_left fun r hr => ?_
    simp only [Function.comp]
    rw [el_put _ _ _ _ (by rw [h.rows r hr]; exact hp), if_pos rfl]
  · rename_i e
    refine List.map_congr_left fun r hr => ?_
    simp only [Function.comp]
    rw [el_put _ _ _ _ (by rw [h.rows r hr]; exact hp), if_neg (fun e2 => e e2.symm)]
theorem spell_rds {t : List (List Int)} (h : Rds t) {p : Nat} (hp : p < wid t) {to : List Int} (hto : SpellOK to) : Rds (spellM t p to) := by
  refine ⟨by rw [spell_len]; exact h.pos, by rw [spell_len]; exact h.num, by rw [spell_wid h]; exact h.w6, fun r hr => ?_, fun r hr x hx => ?_⟩
  · rw [spell_wid h]
    obtain ⟨r', hr', rfl⟩ := List.mem_map.1 hr
    rw [List.length_set]; exact h.rows r' hr'
  · obtain ⟨r', hr', rfl⟩ := List.mem_map.1 hr
    rcases List.mem_or_eq_of_mem_set hx with h1 | h1
    · exact h.rd r' hr' x h1
    · have h2 := h.rd r' hr' _ (el_mem_of r' p (by rw [h.rows r' hr']; exact hp))
      rw [h1]
      exact hto.rd _ (el_mem_of to _ (by rw [hto.len]; omega))
theorem spell_inj {t : List (List Int)} (h : Rds t) {p : Nat} (hp : p < wid t) {to : List Int} (hto : SpellOK to) : ∀ x ∈ colM t p, ∀ y ∈ colM t p, el to x.toNat = el to y.toNat → x = y := by
  intro x hx y hy e
  have h1 := h.col hp x hx
  have h2 := h.col hp y hy
  have := hto.inj _ _ (by omega) (by omega) e
  omega
theorem spell_diff {t : List (List Int)} (h : Rds t) {p : Nat} (hp : p < wid t) {to : List Int} (hto : SpellOK to) (q : Nat) : diffN (colM (spellM t p to) q) = diffN (colM t q) := by
  rw [spell_col h hp]
  split
  · rename_i e
    subst e
    exact diffN_inj _ _ (spell_inj h hp hto)
  · rfl
theorem spell_conf {t : List (List Int)} (h : Rds t) {p : Nat} (hp : p < wid t) {to : List Int} (hto : SpellOK to) (q r : Nat) : confM (spellM t p to) q r = confM t q r := by
  have hz : diffN ((colM (spellM t p to) q).zip (colM (spellM t p to) r)) = diffN ((colM t q).zip (colM t r)) := by
    let f : Nat → Int → Int := fun q x => if q = p then el to x.toNat else x
    have hcol : ∀ q, colM (spellM t p to) q = (colM t q).map (f q) := by
      intro q
      rw [spell_col h hp]
      by_cases e : q = p
      · subst e; simp [f]
      · simp [f, e]
    rw [hcol, hcol, zip_mapB]
    have hinj : ∀ q, ∀ x ∈ colM t q, ∀ y ∈ colM t q, f q x = f q y → x = y := by
      intro q x hx y hy e
      by_cases e2 : q = p
      · subst e2
        simp only [f, if_true] at e
        exact spell_inj h hp hto x hx y hy e
      · simpa [f, e2] using e
    refine diffN_inj _ _ fun x hx y hy e => ?_
    simp only [Prod.mk.injEq] at e
    exact Prod.ext (hinj q _ (List.of_mem_zip hx).1 _ (List.of_mem_zip hy).1 e.1) (hinj r _ (List.of_mem_zip hx).2 _ (List.of_mem_zip hy).2 e.2)
  unfold confM
  rw [hz, spell_diff h hp hto, spell_diff h hp hto]
theorem spell_confs {t : List (List Int)} (h : Rds t) {p : Nat} (hp : p < wid t) {to : List Int} (hto : SpellOK to) : confsM (spellM t p to) = confsM t := by
  have hF : ∀ n p' q, confsF (spellM t p to) p' q n = confsF t p' q n := by
    intro n
    induction n with
    | zero => intro p' q; rfl
    | succ n ih => intro p' q; simp only [confsF, ih, spell_conf h hp hto]
  have hG : ∀ n p' w, confsG (spellM t p to) w p' n = confsG t w p' n := by
    intro n
    induction n with
    | zero => intro p' q; rfl
    | succ n ih => intro p' w; simp only [confsG, ih, hF]
  unfold confsM
  rw [hG, spell_wid h]
theorem spell_apart {t : List (List Int)} (h : Rds t) {p : Nat} (hp : p < wid t) {to : List Int} (hto : SpellOK to) {i j : Nat} (hi : i < t.length) (hj : j < t.length) :
    ∀ n q : Nat, apartF (el (spellM t p to) i) (el (spellM t p to) j) q n = apartF (el t i) (el t j) q n
  | 0, q => rfl
  | n + 1, q => by
    rw [apartF, apartF, spell_apart h hp hto hi hj n (q + 1)]
    have hv : ∀ k, k < t.length → el (el (spellM t p to) k) q = if p = q then el to (el (el t k) p).toNat else el (el t k) q := by
      intro k hk
      unfold spellM
      rw [el_map _ _ _ hk, el_put _ _ _ _ (by rw [h.row hk]; exact hp)]
    have : el (el (spellM t p to) i) q ≠ el (el (spellM t p to) j) q ↔ el (el t i) q ≠ el (el t j) q := by
      rw [hv i hi, hv j hj]
      by_cases e : p = q
      · subst e
        simp only [if_true]
        have h1 := h.val hi hp
        have h2 := h.val hj hp
        constructor
        · intro hne e; rw [e] at hne; exact hne rfl
        · intro hne e
          have := hto.inj _ _ (by omega) (by omega) e
          omega
      · simp [e]
    by_cases hc : el (el t i) q ≠ el (el t j) q
    · rw [if_pos hc, if_pos (this.2 hc)]
    · rw [if_neg hc, if_neg (fun h => hc (this.1 h))]
theorem best_fits {t : List (List Int)} {par ats : List Int} (ht : Rds t) (hx : Treed par ats) (hl : ats.length = t.length) {p : Nat} (hp : p < wid t) {o : List Int} (ho : bestR par (prs t ats p) = some o) :
    o.length = par.length ∧ (∀ i, i < par.length → ok3 (el o i)) ∧ fits (el o) (prs t ats p) ∧ (diffN (colM t p) : Int) ≤ 1 + chgM par o := by
  have hok := treeOK_of ht hx hl hp
  unfold bestR at ho
  simp only [Option.map_eq_some_iff] at ho
  obtain ⟨own, hf, rfl⟩ := ho
  obtain ⟨q1, q2, q3⟩ := best_is hok hf
  have := diff_few hok q2
  rw [prs_snd hl] at this
  exact ⟨readM_len par own, q1, q2, this⟩
end Go.Proofs.Ytnpkaemlidifgaa
end

section
/- Functions of the cut as the value layer reads them. (written by gen.py) -/
set_option maxRecDepth 20000
namespace Go.Proofs.Ytnpkaemlidifgaa
open Go.Abs Go

def A95 : ACode :=
  (.seq (.reg [] [⟨some 2, (.assign (.const (.slice none 0 0))), 23, none⟩])
    (.seq (.seq (.reg [] [⟨some 3, (.move (.tmp 0)), 23, none⟩,
      ⟨some 4, (.binOp .eql 23 (.tmp 3) (.const (.slice none 0 0)) 23), 4, none⟩])
    (.cond (.tmp 4)
    (.seq (.reg [] [⟨some 2, (.assign (.const (.slice none 0 0))), 23, none⟩])
    .ret)
    .skip))
    (.seq (.reg [] [⟨some 5, (.buildSlice 23 0 #[]), 23, none⟩,
      ⟨some 6, (.move (.tmp 0)), 23, none⟩,
      ⟨some 7, (.call ⟨(.builtin .append), #[(.tmp 5), (.tmp 6)], #[23, 23]⟩), 23, none⟩,
      ⟨some 2, (.assign (.tmp 7)), 23, none⟩])
    .ret)))
theorem CO95 {args : List AV} {sz : Nat} {els : List AV} (hn : args.length ≤ 8) (h : vc Try.prog T [] A95 (FinO [(.tmp 2)] sz els) ⟨envOf 0 args, []⟩) : CallO Try.prog 95 args sz els :=
  callO_of tok mixed Try.func95 (by kernel_rfl) (by kernel_rfl) (by kernel_rfl : Try.f95.ntmps = 8) (by kernel_rfl : Try.f95.body.bind (strip 8 (fun _ => [])) = some A95) hn h

end Go.Proofs.Ytnpkaemlidifgaa
end

section
/- Contracts: leaves. -/
namespace Go.Proofs.Ytnpkaemlidifgaa
open Go.Abs Go

end Go.Proofs.Ytnpkaemlidifgaa
end

section
/- Contracts: grounds. -/
namespace Go.Proofs.Ytnpkaemlidifgaa
open Go.Abs Go

end Go.Proofs.Ytnpkaemlidifgaa
end

section
/- Contracts: the library's slices. -/
namespace Go.Proofs.Ytnpkaemlidifgaa
open Go.Abs Go
set_option maxRecDepth 20000
set_option maxHeartbeats 2000000
attribute [local irreducible] PreK CondK CallK CallG CallX LoopK

theorem clone_o (l : List Int) (hl : l.length ≤ 1000) : CallO Try.prog 95 [ints l] 1 (l.map iv) := by
  refine CO95 (by simp) ?_
  simp [A95, nilOK, nilArg, nilOf]
  intro b hb
  refine CondK.intro (fun h => ?_) (fun h => ?_)
  · simp at h
    have h2 := hb h
    simp at h2
    subst h2
    simp
  · simp
    refine PreK.intro (by omega) fun _ => ?_
    simp

end Go.Proofs.Ytnpkaemlidifgaa
end

section
/- Functions of the cut as the value layer reads them. (written by gen.py) -/
set_option maxRecDepth 20000
namespace Go.Proofs.Ytnpkaemlidifgaa
open Go.Abs Go

def A98 : ACode :=
  (.seq (.reg [] [⟨some 4, (.assign (.const (.int .i64 0))), 3, none⟩])
    (.seq (.seq (.reg [] [⟨some 6, (.move (.tmp 0)), 23, none⟩,
      ⟨some 7, (.call ⟨(.builtin .len), #[(.tmp 6)], #[23]⟩), 3, none⟩,
      ⟨some 8, (.move (.const (.int .i64 0))), 3, none⟩])
    (.block 0 (.loop (.seq (.reg [] [⟨some 9, (.binOp .lss 3 (.tmp 8) (.tmp 7) 3), 0, none⟩])
    (.seq (.cond (.tmp 9)
    .skip
    (.exit 0))
    (.seq (.block 1 (.seq (.reg [] [⟨some 10, (.move (.tmp 8)), 3, none⟩,
      ⟨some 5, (.assign (.tmp 10)), 3, none⟩])
    (.seq (.reg [] [⟨some 11, (.move (.tmp 1)), 80, none⟩,
      ⟨some 12, (.move (.tmp 0)), 23, none⟩,
      ⟨some 13, (.move (.tmp 5)), 3, none⟩,
      ⟨some 14, (.indexAddr 23 (.tmp 12) (.tmp 13)), 0, none⟩,
      ⟨some 15, (.load 3 (.tmp 14)), 3, none⟩,
      ⟨some 16, (.call ⟨(.value (.tmp 11)), #[(.tmp 15)], #[3]⟩), 4, none⟩])
    (.cond (.tmp 16)
    (.seq (.reg [] [⟨some 17, (.move (.tmp 5)), 3, none⟩,
      ⟨some 4, (.assign (.tmp 17)), 3, none⟩])
    .ret)
    .skip))))
    (.reg [] [⟨some 18, (.binOp .add 3 (.tmp 8) (.const (.int .i64 1)) 3), 3, none⟩,
      ⟨some 8, (.move (.tmp 18)), 3, none⟩])))))))
    (.seq (.reg [] [⟨some 4, (.assign (.const (.int .i64 (-1)))), 3, none⟩])
    .ret)))
theorem C98 {args : List AV} {r : AV} (hn : args.length ≤ 19) (h : vc Try.prog T [] A98 (Fin T [(.tmp 4)] r) ⟨envOf 0 args, []⟩) : CallP Try.prog 98 args r :=
  callP_of tok mixed Try.func98 (by kernel_rfl) (by kernel_rfl) (by kernel_rfl : Try.f98.ntmps = 19) (by kernel_rfl : Try.f98.body.bind (strip 19 (fun _ => [])) = some A98) hn h
def A69 : ACode :=
  (.seq (.reg [] [⟨some 4, (.assign (.const (.bool false))), 4, none⟩])
    (.seq (.reg [] [⟨some 5, (.move (.tmp 0)), 23, none⟩,
      ⟨some 6, (.move (.tmp 1)), 80, none⟩,
      ⟨some 7, (.call ⟨(.value (.func 98)), #[(.tmp 5), (.tmp 6)], #[23, 80]⟩), 3, none⟩,
      ⟨some 8, (.binOp .geq 3 (.tmp 7) (.const (.int .i64 0)) 3), 4, none⟩,
      ⟨some 4, (.assign (.tmp 8)), 4, none⟩])
    .ret))
theorem C69 {args : List AV} {r : AV} (hn : args.length ≤ 9) (h : vc Try.prog T [] A69 (Fin T [(.tmp 4)] r) ⟨envOf 0 args, []⟩) : CallP Try.prog 69 args r :=
  callP_of tok mixed Try.func69 (by kernel_rfl) (by kernel_rfl) (by kernel_rfl : Try.f69.ntmps = 9) (by kernel_rfl : Try.f69.body.bind (strip 9 (fun _ => [])) = some A69) hn h

end Go.Proofs.Ytnpkaemlidifgaa
end

section
/- Contracts: leaves of package rule. -/
namespace Go.Proofs.Ytnpkaemlidifgaa
open Go.Abs Go

def long (r : Rule) : Int := if r.frm = -1 then 0 else 1
end Go.Proofs.Ytnpkaemlidifgaa
end

section
/- Contracts: the library's searches in []int. -/
namespace Go.Proofs.Ytnpkaemlidifgaa
open Go.Abs Go
set_option maxRecDepth 20000
set_option maxHeartbeats 2000000
attribute [local irreducible] PreK CondK CallK CallG CallX LoopK

def idxF (p : Int → Bool) : Nat → List Int → Int
  | _, [] => -1
  | k, x :: r => if p x then k else idxF p (k + 1) r
theorem idxF_any (p : Int → Bool) : ∀ (l : List Int) (k : Nat), decide (0 ≤ idxF p k l) = l.any p
  | [], k => by simp [idxF]
  | x :: r, k => by
    by_cases h : p x = true
    · simp [idxF, h]
    · simp [idxF, h, idxF_any p r (k + 1)]

theorem indexFunc_c (l : List Int) (hl : l.length ≤ big) (f : FuncId) (cap : List AV) (p : Int → Bool) (hp : ∀ x, CallP Try.prog f (iv x :: cap) (bv (p x))) (h1 : ∀ m, snapL m cap = cap) (h2 : AV.refsL cap = []) (h3 : ∀ m, snapOKL m cap) :
    CallP Try.prog 98 [ints l, .fn f [] cap] (iv (idxF p 0 l)) := by
  refine C98 (by simp) ?_
  generalize hR : idxF p 0 l = R
  simp [A98]
  refine LoopK.by (fun i : Nat => ⟨[(8, iv i), (7, iv l.length), (0, ints l), (1, .fn f [] cap)], []⟩) (fun i => l.length - i) (fun i => i ≤ l.length ∧ idxF p i (l.drop i) = R) 0 (by simpa using hR) (by simp [h2]) ?_
  intro i Q' ⟨hi, hc⟩ hq he hr
  simp
  refine CondK.intro (fun h => ?_) (fun h => ?_)
  · simp at h
    rw [drop_cons l i h] at hc
    simp [h]
    refine CallX.pure (by simpa [h1] using hp (el l i)) (by simp [h3]) (by simp) ?_
    simp
    refine CondK.intro (fun h4 => ?_) (fun h4 => ?_)
    · simp [idxF, h4] at hc
      simp
      apply hr
      simp [hc]
    · simp [idxF, h4] at hc
      simp
      refine PreK.intro (by simp only [big] at hl; omega) fun _ => ?_
      simp
      exact hq (i + 1) _ ⟨by omega, hc⟩ (by omega) (by simp [h2])
  · simp at h
    rw [List.drop_eq_nil_of_le (by omega)] at hc
    simp [idxF] at hc
    simp
    apply he
    simp [hc]

theorem containsFunc_c (l : List Int) (hl : l.length ≤ big) (f : FuncId) (cap : List AV) (p : Int → Bool) (hp : ∀ x, CallP Try.prog f (iv x :: cap) (bv (p x))) (h1 : ∀ m, snapL m cap = cap) (h2 : AV.refsL cap = []) (h3 : ∀ m, snapOKL m cap) :
    CallP Try.prog 69 [ints l, .fn f [] cap] (bv (l.any p)) := by
  refine C69 (by simp) ?_
  rw [← idxF_any p l 0]
  simp [A69]
  refine CallX.pure (by simpa [h1] using indexFunc_c l hl f cap p hp h1 h2 h3) (by simp [h3]) (by simp) ?_
  simp

end Go.Proofs.Ytnpkaemlidifgaa
end

section
/- Contracts: what readings and trees are right. -/
namespace Go.Proofs.Ytnpkaemlidifgaa
open Go.Abs Go
set_option maxRecDepth 20000
set_option maxHeartbeats 2000000
attribute [local irreducible] PreK CondK CallK CallG CallX LoopK
attribute [simp] T_22 T_25 T_24 T_50 T_84 T_92 T_96 T_100 T_102 T_101 T_39 T_38 T_80 T_86 T_108 T_89 T_46 T_93 T_106
attribute [local simp] avsEq avEq akind teq vkind vEq

@[simp] def rdsV (t : List (List Int)) : AV := .seq 1 (t.map ints) false
@[simp] def treeV (par ats : List Int) : AV := .agg [ints par, ints ats]
/-- Readings that are no longer than a statement takes. -/
structure Sm (t : List (List Int)) : Prop where
  num : t.length ≤ 1000
  row : ∀ r ∈ t, r.length ≤ 1000
theorem Sm.el {t : List (List Int)} (h : Sm t) (i : Nat) : (el t i).length ≤ 1000 := by
  by_cases hi : i < t.length
  · exact h.row _ (el_mem_of t i hi)
  · unfold Go.Abs.el
    rw [List.getD_eq_getElem?_getD, List.getElem?_eq_none (by omega)]; simp [default]
theorem sbig {n : Nat} (h : n ≤ 1000) : n ≤ big := Nat.le_trans h (by decide)
theorem swithin_c (n lo hi : Int) : CallP Try.prog 72 [iv n, iv lo, iv hi] (bv (decide (lo ≤ n) && decide (n ≤ hi))) := by
  refine C72 (by simp) ?_
  simp [A72]
theorem rwithin_c (n lo hi : Int) : CallP Try.prog 68 [iv n, iv lo, iv hi] (bv (decide (lo ≤ n) && decide (n ≤ hi))) := by
  refine C68 (by simp) ?_
  simp [A68]
theorem isReading_c (n : Int) : CallP Try.prog 71 [iv n] (bv (okR n)) := by
  refine C71 (by simp) ?_
  simp [A71]
  refine CallX.pure (by simpa using swithin_c n 0 2) (by simp) (by simp) ?_
  simp [okR]
theorem notReading_c (n : Int) : CallP Try.prog 76 [iv n] (bv (!okR n)) := by
  refine C76 (by simp) ?_
  simp [A76]
  refine CallX.pure (by simpa using isReading_c n) (by simp) (by simp) ?_
  simp
theorem Validate_c (t : List (List Int)) (h : Sm t) : CallP Try.prog 34 [rdsV t] (iv (vErr t)) := by
  refine C34 (by simp) ?_
  have hn := h.num
  have hw := swithin_c t.length 1 6
  generalize hR : vErr t = R
  unfold vErr at hR
  simp [A34]
  by_cases h0 : t.length = 0
  · rw [if_pos (.inl h0)] at hR
    rw [h0] at hw
    obtain rfl : t = [] := List.eq_nil_of_length_eq_zero h0
    try simp 
    repeat' (first
      | (refine CallX.pure (hw) (by simp) (by simp) ?_; try simp )
      | (refine CallK.intro (hw) (by simp) (by simp) ?_; try simp )
      | (refine CallG.intro (fun _ => hw) (by simp) (by simp) ?_; try simp )
      | ((with_reducible refine PreK.intro ?_ ?_); (next => (first | omega | (intros; first | omega | (refine ⟨by omega, ?_⟩; repeat (first | assumption | constructor)) | assumption))); intro _; try simp )
      | fail)
    refine CondK.tt ?_
    try simp 
    exact hR
  · have e3 : 0 < t.length := by omega
    by_cases h6 : 6 < t.length
    · rw [if_pos (.inr h6)] at hR
      have e1 : ¬ (t.length : Int) ≤ 6 := by omega
      simp only [e1, decide_false, Bool.and_false] at hw
      try simp [e1, e3]
      repeat' (first
        | (refine CallX.pure (hw) (by simp) (by simp) ?_; try simp [e1, e3])
        | (refine CallK.intro (hw) (by simp) (by simp) ?_; try simp [e1, e3])
        | (refine CallG.intro (fun _ => hw) (by simp) (by simp) ?_; try simp [e1, e3])
        | ((with_reducible refine PreK.intro ?_ ?_); (next => (first | omega | (intros; first | omega | (refine ⟨by omega, ?_⟩; repeat (first | assumption | constructor)) | assumption))); intro _; try simp [e1, e3])
        | fail)
      refine CondK.tt ?_
      try simp 
      exact hR
    · have e1 : (t.length : Int) ≤ 6 := by omega
      have e2 : (1 : Int) ≤ t.length := by omega
      rw [if_neg (by omega)] at hR
      simp only [e1, e2, decide_true, Bool.and_true] at hw
      try simp [e3]
      repeat' (first
        | (refine CallX.pure (hw) (by simp) (by simp) ?_; try simp [e3])
        | (refine CallK.intro (hw) (by simp) (by simp) ?_; try simp [e3])
        | (refine CallG.intro (fun _ => hw) (by simp) (by simp) ?_; try simp [e3])
        | ((with_reducible refine PreK.intro ?_ ?_); (next => (first | omega | (intros; first | omega | (refine ⟨by omega, ?_⟩; repeat (first | assumption | constructor)) | assumption))); intro _; try simp [e3])
        | fail)
      refine CondK.intro (fun h1 => ?_) (fun h1 => ?_)
      · simp at h1
        rw [if_pos (by omega)] at hR
        try simp 
        exact hR
      · simp at h1
        rw [if_neg (by omega)] at hR
        try simp 
        refine LoopK.by (fun i : Nat => ⟨[(18, iv i), (17, iv t.length), (16, rdsV t), (0, rdsV t)], []⟩) (fun i => t.length - i) (fun i => i ≤ t.length ∧ (if (t.drop i).any (rowBad (el t 0).length) = true then 1 else 0) = R) 0 (by simpa using hR) (by simp) ?_
        intro i Q' ⟨hi, hc⟩ hq he hr
        try simp 
        refine CondK.intro (fun h2 => ?_) (fun h2 => ?_)
        · simp at h2
          have hel := h.el i
          rw [drop_cons t i h2, List.any_cons] at hc
          have hcf := containsFunc_c (el t i) (sbig (by omega)) 76 [] (fun n => !okR n) notReading_c (by simp [snapL]) (by simp [AV.refsL]) (by simp [snapOKL])
          unfold rowBad at hc
          by_cases h3 : (el t i).length = (el t 0).length
          · simp only [h3, ne_eq, not_true_eq_false, decide_false, Bool.false_or] at hc
            try simp [h2, e3, h3]
            repeat' (first
              | (refine CallX.pure (hcf) (by simp) (by simp) ?_; try simp [h2, e3, h3])
              | (refine CallK.intro (hcf) (by simp) (by simp) ?_; try simp [h2, e3, h3])
              | (refine CallG.intro (fun _ => hcf) (by simp) (by simp) ?_; try simp [h2, e3, h3])
              | ((with_reducible refine PreK.intro ?_ ?_); (next => (first | omega | (intros; first | omega | (refine ⟨by omega, ?_⟩; repeat (first | assumption | constructor)) | assumption))); intro _; try simp [h2, e3, h3])
              | fail)
            refine CondK.intro (fun h4 => ?_) (fun h4 => ?_)
            · rw [h4] at hc
              simp only [Bool.true_or, if_true] at hc
              try simp 
              apply hr
              try simp 
              exact hc
            · rw [h4] at hc
              simp only [Bool.false_or] at hc
              repeat (refine PreK.intro (by first | omega | (intros; first | omega | (refine ⟨by omega, ?_⟩; simp_all; done) | (simp_all; done) | (simp_all; omega))) fun _ => ?_; (try simp ))
              exact hq (i + 1) _ ⟨by omega, hc⟩ (by omega) (by simp)
          · simp only [h3, ne_eq, not_false_eq_true, decide_true, Bool.true_or, if_true] at hc
            have h3' : ¬ ((el t i).length : Int) = (el t 0).length := by omega
            try simp [h2, e3, h3, h3']
            repeat' (first
              | (refine CallX.pure (hcf) (by simp) (by simp) ?_; try simp [h2, e3, h3, h3'])
              | (refine CallK.intro (hcf) (by simp) (by simp) ?_; try simp [h2, e3, h3, h3'])
              | (refine CallG.intro (fun _ => hcf) (by simp) (by simp) ?_; try simp [h2, e3, h3, h3'])
              | ((with_reducible refine PreK.intro ?_ ?_); (next => (first | omega | (intros; first | omega | (refine ⟨by omega, ?_⟩; repeat (first | assumption | constructor)) | assumption))); intro _; try simp [h2, e3, h3, h3'])
              | fail)
            refine CondK.tt ?_
            try simp 
            apply hr
            try simp 
            exact hc
        · simp at h2
          rw [List.drop_eq_nil_of_le (by omega)] at hc
          simp only [List.any_nil, Bool.false_eq_true, if_false] at hc
          try simp 
          apply he
          try simp 
          exact hc
theorem rValidate_c (t : List (List Int)) (h : Sm t) : CallP Try.prog 35 [rdsV t] (iv (vErr t)) := by
  refine C35 (by simp) ?_
  have hn := h.num
  have hw := rwithin_c t.length 1 6
  generalize hR : vErr t = R
  unfold vErr at hR
  simp [A35]
  by_cases h0 : t.length = 0
  · rw [if_pos (.inl h0)] at hR
    rw [h0] at hw
    obtain rfl : t = [] := List.eq_nil_of_length_eq_zero h0
    try simp 
    repeat' (first
      | (refine CallX.pure (hw) (by simp) (by simp) ?_; try simp )
      | (refine CallK.intro (hw) (by simp) (by simp) ?_; try simp )
      | (refine CallG.intro (fun _ => hw) (by simp) (by simp) ?_; try simp )
      | ((with_reducible refine PreK.intro ?_ ?_); (next => (first | omega | (intros; first | omega | (refine ⟨by omega, ?_⟩; repeat (first | assumption | constructor)) | assumption))); intro _; try simp )
      | fail)
    refine CondK.tt ?_
    try simp 
    exact hR
  · have e3 : 0 < t.length := by omega
    by_cases h6 : 6 < t.length
    · rw [if_pos (.inr h6)] at hR
      have e1 : ¬ (t.length : Int) ≤ 6 := by omega
      simp only [e1, decide_false, Bool.and_false] at hw
      try simp [e1, e3]
      repeat' (first
        | (refine CallX.pure (hw) (by simp) (by simp) ?_; try simp [e1, e3])
        | (refine CallK.intro (hw) (by simp) (by simp) ?_; try simp [e1, e3])
        | (refine CallG.intro (fun _ => hw) (by simp) (by simp) ?_; try simp [e1, e3])
        | ((with_reducible refine PreK.intro ?_ ?_); (next => (first | omega | (intros; first | omega | (refine ⟨by omega, ?_⟩; repeat (first | assumption | constructor)) | assumption))); intro _; try simp [e1, e3])
        | fail)
      refine CondK.tt ?_
      try simp 
      exact hR
    · have e1 : (t.length : Int) ≤ 6 := by omega
      have e2 : (1 : Int) ≤ t.length := by omega
      rw [if_neg (by omega)] at hR
      simp only [e1, e2, decide_true, Bool.and_true] at hw
      try simp [e3]
      repeat' (first
        | (refine CallX.pure (hw) (by simp) (by simp) ?_; try simp [e3])
        | (refine CallK.intro (hw) (by simp) (by simp) ?_; try simp [e3])
        | (refine CallG.intro (fun _ => hw) (by simp) (by simp) ?_; try simp [e3])
        | ((with_reducible refine PreK.intro ?_ ?_); (next => (first | omega | (intros; first | omega | (refine ⟨by omega, ?_⟩; repeat (first | assumption | constructor)) | assumption))); intro _; try simp [e3])
        | fail)
      refine CondK.intro (fun h1 => ?_) (fun h1 => ?_)
      · simp at h1
        rw [if_pos (by omega)] at hR
        try simp 
        exact hR
      · simp at h1
        rw [if_neg (by omega)] at hR
        try simp 
        refine LoopK.by (fun i : Nat => ⟨[(3, iv i), (0, rdsV t)], []⟩) (fun i => t.length - i) (fun i => i ≤ t.length ∧ (if (t.drop i).any (rowBad (el t 0).length) = true then 1 else 0) = R) 0 (by simpa using hR) (by simp) ?_
        intro i Q' ⟨hi, hc⟩ hq he hr
        try simp 
        refine CondK.intro (fun h2 => ?_) (fun h2 => ?_)
        · simp at h2
          have hel := h.el i
          rw [drop_cons t i h2, List.any_cons] at hc
          unfold rowBad at hc
          try simp [h2, e3]
          repeat' (first
            | ((with_reducible refine PreK.intro ?_ ?_); (next => (first | omega | (intros; first | omega | (refine ⟨by omega, ?_⟩; repeat (first | assumption | constructor)) | assumption))); intro _; try simp [h2, e3])
            | fail)
          refine CondK.intro (fun h3 => ?_) (fun h3 => ?_)
          · simp at h3
            have h3' : (el t i).length ≠ (el t 0).length := by omega
            simp only [h3', ne_eq, not_false_eq_true, decide_true, Bool.true_or, if_true] at hc
            try simp 
            apply hr
            try simp 
            exact hc
          · simp at h3
            have h3' : (el t i).length = (el t 0).length := by omega
            simp only [h3', ne_eq, not_true_eq_false, decide_false, Bool.false_or] at hc
            try simp 
            refine LoopK.by (fun k : Nat => ⟨[(4, iv k), (3, iv i), (0, rdsV t)], []⟩) (fun k => (el t i).length - k) (fun k => k ≤ (el t i).length ∧ (if (((el t i).drop k).any (fun n => !okR n) || (t.drop (i + 1)).any (rowBad (el t 0).length)) = true then 1 else 0) = R) 0 ⟨Nat.zero_le _, by simpa [rowBad] using hc⟩ (by simp) ?_
            intro k Q2 ⟨hk, hc2⟩ hq2 he2 hr2
            try simp [h2]
            repeat' (first
              | ((with_reducible refine PreK.intro ?_ ?_); (next => (first | omega | (intros; first | omega | (refine ⟨by omega, ?_⟩; repeat (first | assumption | constructor)) | assumption))); intro _; try simp [h2])
              | fail)
            refine CondK.intro (fun h4 => ?_) (fun h4 => ?_)
            · simp at h4
              rw [drop_cons (el t i) k h4, List.any_cons] at hc2
              try simp [h2, h4]
              repeat' (first
                | (refine CallX.pure (rwithin_c (el (el t i) k) 0 2) (by simp) (by simp) ?_; try simp [h2, h4])
                | (refine CallK.intro (rwithin_c (el (el t i) k) 0 2) (by simp) (by simp) ?_; try simp [h2, h4])
                | (refine CallG.intro (fun _ => rwithin_c (el (el t i) k) 0 2) (by simp) (by simp) ?_; try simp [h2, h4])
                | ((with_reducible refine PreK.intro ?_ ?_); (next => (first | omega | (intros; first | omega | (refine ⟨by omega, ?_⟩; repeat (first | assumption | constructor)) | assumption))); intro _; try simp [h2, h4])
                | fail)
              refine CondK.intro (fun h5 => ?_) (fun h5 => ?_)
              · have e : okR (el (el t i) k) = false := by simp at h5; simp [okR]; omega
                simp only [e, Bool.not_false, Bool.true_or, if_true] at hc2
                try simp 
                apply hr2
                try simp 
                apply hr
                try simp 
                exact hc2
              · have e : okR (el (el t i) k) = true := by simp at h5; simp [okR]; omega
                simp only [e, Bool.not_true, Bool.false_or] at hc2
                repeat (refine PreK.intro (by first | omega | (intros; first | omega | (refine ⟨by omega, ?_⟩; simp_all; done) | (simp_all; done) | (simp_all; omega))) fun _ => ?_; (try simp ))
                exact hq2 (k + 1) _ ⟨by omega, hc2⟩ (by omega) (by simp)
            · simp at h4
              rw [List.drop_eq_nil_of_le (show (el t i).length ≤ k by omega)] at hc2
              simp only [List.any_nil, Bool.false_or] at hc2
              try simp 
              apply he2
              repeat (refine PreK.intro (by first | omega | (intros; first | omega | (refine ⟨by omega, ?_⟩; simp_all; done) | (simp_all; done) | (simp_all; omega))) fun _ => ?_; (try simp ))
              exact hq (i + 1) _ ⟨by omega, hc2⟩ (by omega) (by simp)
        · simp at h2
          rw [List.drop_eq_nil_of_le (by omega)] at hc
          simp only [List.any_nil, Bool.false_eq_true, if_false] at hc
          try simp 
          apply he
          try simp 
          exact hc
end Go.Proofs.Ytnpkaemlidifgaa
end
