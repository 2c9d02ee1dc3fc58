/- Part 5 of the proof: the value layer and the contracts of the functions that the statement reaches; proved without conditions beyond those each theorem states. -/
import Derived.Test.YtkhddecnllcaiaaGreatProg
import Derived.Test.YtkhddecnllcaiaaGreatV4
set_option linter.unusedSimpArgs false
set_option linter.unusedVariables false

section
/- The table of types of the cut, and that it is right. (written by types.py) -/
set_option maxRecDepth 8000
namespace Go.Proofs.YtkhddecnllcaiaaGreat
open Go.Abs

def rows : List (Nat × TI) := [
  (2, ⟨1, 8, .int .i64, .raw (.int .i64 0), false⟩),
  (3, ⟨1, 8, .int .i64, .raw (.int .i64 0), false⟩),
  (4, ⟨1, 1, .bool, .raw (.bool false), false⟩),
  (5, ⟨1, 1, .int .u8, .raw (.int .u8 0), false⟩),
  (9, ⟨1, 16, .str, .raw (.string ByteArray.empty), false⟩),
  (12, ⟨1, 8, .int .u64, .raw (.int .u64 0), false⟩),
  (13, ⟨2, 24, .struct [(0, 1, 9), (1, 1, 12)], .agg [.raw (.string ByteArray.empty), .raw (.int .u64 0)], false⟩),
  (21, ⟨1, 4, .int .i32, .raw (.int .i32 0), false⟩),
  (22, ⟨1, 24, .slice 46, .seq 4 [] true, false⟩),
  (23, ⟨1, 24, .slice 3, .seq 1 [] true, false⟩),
  (27, ⟨1, 24, .slice 23, .seq 1 [] true, false⟩),
  (28, ⟨1, 8, .int .i64, .raw (.int .i64 0), false⟩),
  (35, ⟨3, 72, .struct [(0, 1, 22), (1, 1, 23), (2, 1, 23)], .agg [.seq 4 [] true, .seq 1 [] true, .seq 1 [] true], false⟩),
  (36, ⟨3, 72, .struct [(0, 1, 22), (1, 1, 23), (2, 1, 23)], .agg [.seq 4 [] true, .seq 1 [] true, .seq 1 [] true], false⟩),
  (45, ⟨4, 80, .struct [(0, 1, 3), (1, 1, 23), (2, 1, 23), (3, 1, 23)], .agg [.raw (.int .i64 0), .seq 1 [] true, .seq 1 [] true, .seq 1 [] true], false⟩),
  (46, ⟨4, 80, .struct [(0, 1, 3), (1, 1, 23), (2, 1, 23), (3, 1, 23)], .agg [.raw (.int .i64 0), .seq 1 [] true, .seq 1 [] true, .seq 1 [] true], false⟩),
  (48, ⟨1, 8, .flat, .raw (.pointer none), false⟩),
  (52, ⟨3, 72, .struct [(0, 1, 27), (1, 1, 27), (2, 1, 23)], .agg [.seq 1 [] true, .seq 1 [] true, .seq 1 [] true], false⟩),
  (53, ⟨3, 72, .struct [(0, 1, 27), (1, 1, 27), (2, 1, 23)], .agg [.seq 1 [] true, .seq 1 [] true, .seq 1 [] true], false⟩),
  (57, ⟨1, 8, .map 9 3 .str, .raw (.map none), false⟩),
  (58, ⟨1, 24, .slice 103, .seq 2 [] true, false⟩),
  (59, ⟨5, 104, .struct [(0, 1, 22), (1, 1, 27), (2, 1, 57), (3, 1, 23), (4, 1, 58)], .agg [.seq 4 [] true, .seq 1 [] true, .raw (.map none), .seq 1 [] true, .seq 2 [] true], false⟩),
  (60, ⟨5, 104, .struct [(0, 1, 22), (1, 1, 27), (2, 1, 57), (3, 1, 23), (4, 1, 58)], .agg [.seq 4 [] true, .seq 1 [] true, .raw (.map none), .seq 1 [] true, .seq 2 [] true], false⟩),
  (65, ⟨1, 24, .slice 70, .seq 3 [] true, false⟩),
  (69, ⟨3, 24, .struct [(0, 1, 3), (1, 1, 3), (2, 1, 3)], .agg [.raw (.int .i64 0), .raw (.int .i64 0), .raw (.int .i64 0)], true⟩),
  (70, ⟨3, 24, .struct [(0, 1, 3), (1, 1, 3), (2, 1, 3)], .agg [.raw (.int .i64 0), .raw (.int .i64 0), .raw (.int .i64 0)], true⟩),
  (88, ⟨1, 24, .slice 89, .seq 1 [] true, false⟩),
  (89, ⟨1, 24, .slice 4, .seq 1 [] true, false⟩),
  (96, ⟨1, 24, .slice 105, .seq 3 [] true, false⟩),
  (101, ⟨1, 8, .flat, .raw .nilFunc, false⟩),
  (102, ⟨2, 16, .struct [(0, 1, 3), (1, 1, 3)], .agg [.raw (.int .i64 0), .raw (.int .i64 0)], true⟩),
  (103, ⟨2, 16, .struct [(0, 1, 3), (1, 1, 3)], .agg [.raw (.int .i64 0), .raw (.int .i64 0)], true⟩),
  (104, ⟨3, 40, .struct [(0, 2, 103), (2, 1, 23)], .agg [.raw (.int .i64 0), .raw (.int .i64 0), .seq 1 [] true], false⟩),
  (105, ⟨3, 40, .struct [(0, 2, 103), (2, 1, 23)], .agg [.raw (.int .i64 0), .raw (.int .i64 0), .seq 1 [] true], false⟩),
  (114, ⟨1, 8, .int .u64, .raw (.int .u64 0), false⟩),
  (119, ⟨1, 24, .slice 5, .seq 1 [] true, false⟩),
  (126, ⟨1, 24, .slice 129, .seq 6 [] true, false⟩),
  (128, ⟨6, 96, .struct [(0, 2, 103), (2, 4, 46)], .agg [.raw (.int .i64 0), .raw (.int .i64 0), .raw (.int .i64 0), .seq 1 [] true, .seq 1 [] true, .seq 1 [] true], false⟩),
  (129, ⟨6, 96, .struct [(0, 2, 103), (2, 4, 46)], .agg [.raw (.int .i64 0), .raw (.int .i64 0), .raw (.int .i64 0), .seq 1 [] true, .seq 1 [] true, .seq 1 [] true], false⟩),
  (137, ⟨1, 8, .int .i64, .raw (.int .i64 0), false⟩),
  (145, ⟨1, 4, .int .u32, .raw (.int .u32 0), false⟩),
  (147, ⟨1, 8, .int .u64, .raw (.int .u64 0), false⟩),
  (171, ⟨1, 8, .int .u64, .raw (.int .u64 0), false⟩),
  (175, ⟨1, 8, .flat, .raw (.pointer none), false⟩),
  (182, ⟨7, 7, .array 7 4, .agg [.raw (.bool false), .raw (.bool false), .raw (.bool false), .raw (.bool false), .raw (.bool false), .raw (.bool false), .raw (.bool false)], true⟩),
  (183, ⟨7, 7, .array 7 4, .agg [.raw (.bool false), .raw (.bool false), .raw (.bool false), .raw (.bool false), .raw (.bool false), .raw (.bool false), .raw (.bool false)], true⟩),
  (187, ⟨1, 8, .flat, .raw .nilFunc, false⟩),
  (188, ⟨1, 8, .struct [(0, 1, 187)], .agg [.raw .nilFunc], false⟩),
  (189, ⟨1, 8, .struct [(0, 1, 187)], .agg [.raw .nilFunc], false⟩),
  (190, ⟨4, 32, .array 4 189, .agg [.raw .nilFunc, .raw .nilFunc, .raw .nilFunc, .raw .nilFunc], false⟩),
  (192, ⟨1, 8, .flat, .raw (.pointer none), false⟩),
  (214, ⟨1, 8, .flat, .raw (.pointer none), false⟩)]
def T : TT := findT rows
theorem T_2 : T 2 = some ⟨1, 8, .int .i64, .raw (.int .i64 0), false⟩ := by kernel_rfl
theorem T_3 : T 3 = some ⟨1, 8, .int .i64, .raw (.int .i64 0), false⟩ := by kernel_rfl
theorem T_4 : T 4 = some ⟨1, 1, .bool, .raw (.bool false), false⟩ := by kernel_rfl
theorem T_5 : T 5 = some ⟨1, 1, .int .u8, .raw (.int .u8 0), false⟩ := by kernel_rfl
theorem T_9 : T 9 = some ⟨1, 16, .str, .raw (.string ByteArray.empty), false⟩ := by kernel_rfl
theorem T_12 : T 12 = some ⟨1, 8, .int .u64, .raw (.int .u64 0), false⟩ := by kernel_rfl
theorem T_13 : T 13 = some ⟨2, 24, .struct [(0, 1, 9), (1, 1, 12)], .agg [.raw (.string ByteArray.empty), .raw (.int .u64 0)], false⟩ := by kernel_rfl
theorem T_21 : T 21 = some ⟨1, 4, .int .i32, .raw (.int .i32 0), false⟩ := by kernel_rfl
theorem T_22 : T 22 = some ⟨1, 24, .slice 46, .seq 4 [] true, false⟩ := by kernel_rfl
theorem T_23 : T 23 = some ⟨1, 24, .slice 3, .seq 1 [] true, false⟩ := by kernel_rfl
theorem T_27 : T 27 = some ⟨1, 24, .slice 23, .seq 1 [] true, false⟩ := by kernel_rfl
theorem T_28 : T 28 = some ⟨1, 8, .int .i64, .raw (.int .i64 0), false⟩ := by kernel_rfl
theorem T_35 : T 35 = some ⟨3, 72, .struct [(0, 1, 22), (1, 1, 23), (2, 1, 23)], .agg [.seq 4 [] true, .seq 1 [] true, .seq 1 [] true], false⟩ := by kernel_rfl
theorem T_36 : T 36 = some ⟨3, 72, .struct [(0, 1, 22), (1, 1, 23), (2, 1, 23)], .agg [.seq 4 [] true, .seq 1 [] true, .seq 1 [] true], false⟩ := by kernel_rfl
theorem T_45 : T 45 = some ⟨4, 80, .struct [(0, 1, 3), (1, 1, 23), (2, 1, 23), (3, 1, 23)], .agg [.raw (.int .i64 0), .seq 1 [] true, .seq 1 [] true, .seq 1 [] true], false⟩ := by kernel_rfl
theorem T_46 : T 46 = some ⟨4, 80, .struct [(0, 1, 3), (1, 1, 23), (2, 1, 23), (3, 1, 23)], .agg [.raw (.int .i64 0), .seq 1 [] true, .seq 1 [] true, .seq 1 [] true], false⟩ := by kernel_rfl
theorem T_48 : T 48 = some ⟨1, 8, .flat, .raw (.pointer none), false⟩ := by kernel_rfl
theorem T_52 : T 52 = some ⟨3, 72, .struct [(0, 1, 27), (1, 1, 27), (2, 1, 23)], .agg [.seq 1 [] true, .seq 1 [] true, .seq 1 [] true], false⟩ := by kernel_rfl
theorem T_53 : T 53 = some ⟨3, 72, .struct [(0, 1, 27), (1, 1, 27), (2, 1, 23)], .agg [.seq 1 [] true, .seq 1 [] true, .seq 1 [] true], false⟩ := by kernel_rfl
theorem T_57 : T 57 = some ⟨1, 8, .map 9 3 .str, .raw (.map none), false⟩ := by kernel_rfl
theorem T_58 : T 58 = some ⟨1, 24, .slice 103, .seq 2 [] true, false⟩ := by kernel_rfl
theorem T_59 : T 59 = some ⟨5, 104, .struct [(0, 1, 22), (1, 1, 27), (2, 1, 57), (3, 1, 23), (4, 1, 58)], .agg [.seq 4 [] true, .seq 1 [] true, .raw (.map none), .seq 1 [] true, .seq 2 [] true], false⟩ := by kernel_rfl
theorem T_60 : T 60 = some ⟨5, 104, .struct [(0, 1, 22), (1, 1, 27), (2, 1, 57), (3, 1, 23), (4, 1, 58)], .agg [.seq 4 [] true, .seq 1 [] true, .raw (.map none), .seq 1 [] true, .seq 2 [] true], false⟩ := by kernel_rfl
theorem T_65 : T 65 = some ⟨1, 24, .slice 70, .seq 3 [] true, false⟩ := by kernel_rfl
theorem T_69 : T 69 = some ⟨3, 24, .struct [(0, 1, 3), (1, 1, 3), (2, 1, 3)], .agg [.raw (.int .i64 0), .raw (.int .i64 0), .raw (.int .i64 0)], true⟩ := by kernel_rfl
theorem T_70 : T 70 = some ⟨3, 24, .struct [(0, 1, 3), (1, 1, 3), (2, 1, 3)], .agg [.raw (.int .i64 0), .raw (.int .i64 0), .raw (.int .i64 0)], true⟩ := by kernel_rfl
theorem T_88 : T 88 = some ⟨1, 24, .slice 89, .seq 1 [] true, false⟩ := by kernel_rfl
theorem T_89 : T 89 = some ⟨1, 24, .slice 4, .seq 1 [] true, false⟩ := by kernel_rfl
theorem T_96 : T 96 = some ⟨1, 24, .slice 105, .seq 3 [] true, false⟩ := by kernel_rfl
theorem T_101 : T 101 = some ⟨1, 8, .flat, .raw .nilFunc, false⟩ := by kernel_rfl
theorem T_102 : T 102 = some ⟨2, 16, .struct [(0, 1, 3), (1, 1, 3)], .agg [.raw (.int .i64 0), .raw (.int .i64 0)], true⟩ := by kernel_rfl
theorem T_103 : T 103 = some ⟨2, 16, .struct [(0, 1, 3), (1, 1, 3)], .agg [.raw (.int .i64 0), .raw (.int .i64 0)], true⟩ := by kernel_rfl
theorem T_104 : T 104 = some ⟨3, 40, .struct [(0, 2, 103), (2, 1, 23)], .agg [.raw (.int .i64 0), .raw (.int .i64 0), .seq 1 [] true], false⟩ := by kernel_rfl
theorem T_105 : T 105 = some ⟨3, 40, .struct [(0, 2, 103), (2, 1, 23)], .agg [.raw (.int .i64 0), .raw (.int .i64 0), .seq 1 [] true], false⟩ := by kernel_rfl
theorem T_114 : T 114 = some ⟨1, 8, .int .u64, .raw (.int .u64 0), false⟩ := by kernel_rfl
theorem T_119 : T 119 = some ⟨1, 24, .slice 5, .seq 1 [] true, false⟩ := by kernel_rfl
theorem T_126 : T 126 = some ⟨1, 24, .slice 129, .seq 6 [] true, false⟩ := by kernel_rfl
theorem T_128 : T 128 = some ⟨6, 96, .struct [(0, 2, 103), (2, 4, 46)], .agg [.raw (.int .i64 0), .raw (.int .i64 0), .raw (.int .i64 0), .seq 1 [] true, .seq 1 [] true, .seq 1 [] true], false⟩ := by kernel_rfl
theorem T_129 : T 129 = some ⟨6, 96, .struct [(0, 2, 103), (2, 4, 46)], .agg [.raw (.int .i64 0), .raw (.int .i64 0), .raw (.int .i64 0), .seq 1 [] true, .seq 1 [] true, .seq 1 [] true], false⟩ := by kernel_rfl
theorem T_137 : T 137 = some ⟨1, 8, .int .i64, .raw (.int .i64 0), false⟩ := by kernel_rfl
theorem T_145 : T 145 = some ⟨1, 4, .int .u32, .raw (.int .u32 0), false⟩ := by kernel_rfl
theorem T_147 : T 147 = some ⟨1, 8, .int .u64, .raw (.int .u64 0), false⟩ := by kernel_rfl
theorem T_171 : T 171 = some ⟨1, 8, .int .u64, .raw (.int .u64 0), false⟩ := by kernel_rfl
theorem T_175 : T 175 = some ⟨1, 8, .flat, .raw (.pointer none), false⟩ := by kernel_rfl
theorem T_182 : T 182 = some ⟨7, 7, .array 7 4, .agg [.raw (.bool false), .raw (.bool false), .raw (.bool false), .raw (.bool false), .raw (.bool false), .raw (.bool false), .raw (.bool false)], true⟩ := by kernel_rfl
theorem T_183 : T 183 = some ⟨7, 7, .array 7 4, .agg [.raw (.bool false), .raw (.bool false), .raw (.bool false), .raw (.bool false), .raw (.bool false), .raw (.bool false), .raw (.bool false)], true⟩ := by kernel_rfl
theorem T_187 : T 187 = some ⟨1, 8, .flat, .raw .nilFunc, false⟩ := by kernel_rfl
theorem T_188 : T 188 = some ⟨1, 8, .struct [(0, 1, 187)], .agg [.raw .nilFunc], false⟩ := by kernel_rfl
theorem T_189 : T 189 = some ⟨1, 8, .struct [(0, 1, 187)], .agg [.raw .nilFunc], false⟩ := by kernel_rfl
theorem T_190 : T 190 = some ⟨4, 32, .array 4 189, .agg [.raw .nilFunc, .raw .nilFunc, .raw .nilFunc, .raw .nilFunc], false⟩ := by kernel_rfl
theorem T_192 : T 192 = some ⟨1, 8, .flat, .raw (.pointer none), false⟩ := by kernel_rfl
theorem T_214 : T 214 = some ⟨1, 8, .flat, .raw (.pointer none), false⟩ := by kernel_rfl

theorem tokRows : (rows.all fun r => rowOK Tryz.prog r.1 r.2) = true := by kernel_rfl
theorem mixed : Tryz.prog.follows .mixedOrders = true := by kernel_rfl
theorem eqRows : ∀ r ∈ rows.filter fun r => r.2.eq, EqR Tryz.prog r.1 r.2.zero := by
  intro r hr
  have he : rows.filter (fun r => r.2.eq) = [(69, ⟨3, 24, .struct [(0, 1, 3), (1, 1, 3), (2, 1, 3)], .agg [.raw (.int .i64 0), .raw (.int .i64 0), .raw (.int .i64 0)], true⟩), (70, ⟨3, 24, .struct [(0, 1, 3), (1, 1, 3), (2, 1, 3)], .agg [.raw (.int .i64 0), .raw (.int .i64 0), .raw (.int .i64 0)], true⟩), (102, ⟨2, 16, .struct [(0, 1, 3), (1, 1, 3)], .agg [.raw (.int .i64 0), .raw (.int .i64 0)], true⟩), (103, ⟨2, 16, .struct [(0, 1, 3), (1, 1, 3)], .agg [.raw (.int .i64 0), .raw (.int .i64 0)], true⟩), (182, ⟨7, 7, .array 7 4, .agg [.raw (.bool false), .raw (.bool false), .raw (.bool false), .raw (.bool false), .raw (.bool false), .raw (.bool false), .raw (.bool false)], true⟩), (183, ⟨7, 7, .array 7 4, .agg [.raw (.bool false), .raw (.bool false), .raw (.bool false), .raw (.bool false), .raw (.bool false), .raw (.bool false), .raw (.bool false)], true⟩)] := rfl
  rw [he] at hr
  simp only [List.mem_cons, List.not_mem_nil, or_false] at hr
  rcases hr with rfl | rfl | rfl | rfl | rfl | rfl
  · exact eqR_struct Tryz.underlying69 Tryz.stoodInHeld69 Tryz.eqGuardType69 (by kernel_rfl)
  · exact eqR_struct Tryz.underlying70 Tryz.stoodInHeld70 Tryz.eqGuardType70 (by kernel_rfl)
  · exact eqR_struct Tryz.underlying102 Tryz.stoodInHeld102 Tryz.eqGuardType102 (by kernel_rfl)
  · exact eqR_struct Tryz.underlying103 Tryz.stoodInHeld103 Tryz.eqGuardType103 (by kernel_rfl)
  · exact eqR_arr7 Tryz.underlying182 Tryz.underlying4 (fun w => Tryz.sizeOf4 w) Tryz.eqGuardType182
  · exact eqR_arr7 Tryz.underlying183 Tryz.underlying4 (fun w => Tryz.sizeOf4 w) Tryz.eqGuardType183
theorem tok : TOK Tryz.prog T := tok_of rows tokRows fun r hr he => eqRows r (List.mem_filter.2 ⟨hr, he⟩)
attribute [irreducible] T
end Go.Proofs.YtkhddecnllcaiaaGreat
end

section
/- Functions of the cut as the value layer reads them. (written by gen.py) -/
set_option maxRecDepth 20000
namespace Go.Proofs.YtkhddecnllcaiaaGreat
open Go.Abs Go

def A39 : ACode :=
  (.seq (.reg [] [⟨some 2, (.assign (.const (.slice none 0 0))), 23, none⟩])
    (.seq (.seq (.reg [] [⟨some 3, (.move (.tmp 0)), 23, none⟩,
      ⟨some 4, (.binOp .eql 23 (.tmp 3) (.const (.slice none 0 0)) 23), 4, none⟩])
    (.cond (.tmp 4)
    (.seq (.reg [] [⟨some 2, (.assign (.const (.slice none 0 0))), 23, none⟩])
    .ret)
    .skip))
    (.seq (.reg [] [⟨some 5, (.buildSlice 23 0 #[]), 23, none⟩,
      ⟨some 6, (.move (.tmp 0)), 23, none⟩,
      ⟨some 7, (.call ⟨(.builtin .append), #[(.tmp 5), (.tmp 6)], #[23, 23]⟩), 23, none⟩,
      ⟨some 2, (.assign (.tmp 7)), 23, none⟩])
    .ret)))
theorem CO39 {args : List AV} {sz : Nat} {els : List AV} (hn : args.length ≤ 8) (h : vc Tryz.prog T [] A39 (FinO [(.tmp 2)] sz els) ⟨envOf 0 args, []⟩) : CallO Tryz.prog 39 args sz els :=
  callO_of tok mixed Tryz.func39 (by kernel_rfl) (by kernel_rfl) (by kernel_rfl : Tryz.f39.ntmps = 8) (by kernel_rfl : Tryz.f39.body.bind (strip 8 (fun _ => [])) = some A39) hn h
def A186 : ACode :=
  (.seq (.reg [] [⟨some 4, (.assign (.const (.slice none 0 0))), 23, none⟩])
    (.seq (.seq (.reg [] [⟨some 5, (.move (.tmp 1)), 3, none⟩,
      ⟨some 6, (.binOp .lss 3 (.tmp 5) (.const (.int .i64 0)) 3), 4, none⟩])
    (.cond (.tmp 6)
    (.reg [] [⟨some 7, (.makeInterface 9 (.const (.string ⟨#[99, 97, 110, 110, 111, 116, 32, 98, 101, 32, 110, 101, 103, 97, 116, 105, 118, 101]⟩))), 20, none⟩,
      ⟨none, (.panic (.tmp 7)), 0, none⟩])
    .skip))
    (.seq (.seq (.reg [] [⟨some 8, (.move (.tmp 1)), 3, none⟩,
      ⟨some 9, (.move (.tmp 0)), 23, none⟩,
      ⟨some 10, (.call ⟨(.builtin .cap), #[(.tmp 9)], #[23]⟩), 3, none⟩,
      ⟨some 11, (.move (.tmp 0)), 23, none⟩,
      ⟨some 12, (.call ⟨(.builtin .len), #[(.tmp 11)], #[23]⟩), 3, none⟩,
      ⟨some 13, (.binOp .sub 3 (.tmp 10) (.tmp 12) 3), 3, none⟩,
      ⟨some 14, (.binOp .sub 3 (.tmp 8) (.tmp 13) 3), 3, none⟩,
      ⟨some 1, (.assign (.tmp 14)), 3, none⟩])
    (.seq (.reg [] [⟨some 15, (.move (.tmp 1)), 3, none⟩,
      ⟨some 16, (.binOp .gtr 3 (.tmp 15) (.const (.int .i64 0)) 3), 4, none⟩])
    (.cond (.tmp 16)
    (.reg [] [⟨some 17, (.move (.tmp 0)), 23, none⟩,
      ⟨some 18, (.move (.tmp 0)), 23, none⟩,
      ⟨some 19, (.call ⟨(.builtin .cap), #[(.tmp 18)], #[23]⟩), 3, none⟩,
      ⟨some 20, (.slice 23 (.tmp 17) none (some (.tmp 19)) none), 23, none⟩,
      ⟨some 21, (.move (.tmp 1)), 3, none⟩,
      ⟨some 22, (.call ⟨(.builtin .append), #[(.tmp 20), (.tmp 21)], #[23, 3]⟩), 23, none⟩,
      ⟨some 23, (.move (.tmp 0)), 23, none⟩,
      ⟨some 24, (.call ⟨(.builtin .len), #[(.tmp 23)], #[23]⟩), 3, none⟩,
      ⟨some 25, (.slice 23 (.tmp 22) none (some (.tmp 24)) none), 23, none⟩,
      ⟨some 0, (.assign (.tmp 25)), 23, none⟩])
    .skip)))
    (.seq (.reg [] [⟨some 26, (.move (.tmp 0)), 23, none⟩,
      ⟨some 4, (.assign (.tmp 26)), 23, none⟩])
    .ret))))
theorem CO186 {args : List AV} {sz : Nat} {els : List AV} (hn : args.length ≤ 27) (h : vc Tryz.prog T [] A186 (FinO [(.tmp 4)] sz els) ⟨envOf 0 args, []⟩) : CallO Tryz.prog 186 args sz els :=
  callO_of tok mixed Tryz.func186 (by kernel_rfl) (by kernel_rfl) (by kernel_rfl : Tryz.f186.ntmps = 27) (by kernel_rfl : Tryz.f186.body.bind (strip 27 (fun _ => [])) = some A186) hn h
def A177 : ACode :=
  (.seq (.reg [] [⟨some 2, (.assign (.const (.slice none 0 0))), 23, none⟩])
    (.seq (.reg [] [⟨some 3, (.assign (.const (.int .i64 0))), 3, none⟩])
    (.seq (.seq (.reg [] [⟨some 9, (.move (.tmp 0)), 27, none⟩,
      ⟨some 10, (.call ⟨(.builtin .len), #[(.tmp 9)], #[27]⟩), 3, none⟩,
      ⟨some 11, (.move (.const (.int .i64 0))), 3, none⟩])
    (.block 0 (.loop (.seq (.reg [] [⟨some 12, (.binOp .lss 3 (.tmp 11) (.tmp 10) 3), 0, none⟩])
    (.seq (.cond (.tmp 12)
    .skip
    (.exit 0))
    (.seq (.block 1 (.seq (.reg [] [⟨some 13, (.indexAddr 27 (.tmp 9) (.tmp 11)), 0, none⟩,
      ⟨some 14, (.load 23 (.tmp 13)), 23, none⟩,
      ⟨some 5, (.assign (.tmp 14)), 23, none⟩])
    (.seq (.reg [] [⟨some 15, (.move (.tmp 3)), 3, none⟩,
      ⟨some 16, (.move (.tmp 5)), 23, none⟩,
      ⟨some 17, (.call ⟨(.builtin .len), #[(.tmp 16)], #[23]⟩), 3, none⟩,
      ⟨some 18, (.binOp .add 3 (.tmp 15) (.tmp 17) 3), 3, none⟩,
      ⟨some 3, (.assign (.tmp 18)), 3, none⟩])
    (.seq (.reg [] [⟨some 19, (.move (.tmp 3)), 3, none⟩,
      ⟨some 20, (.binOp .lss 3 (.tmp 19) (.const (.int .i64 0)) 3), 4, none⟩])
    (.cond (.tmp 20)
    (.reg [] [⟨some 21, (.makeInterface 9 (.const (.string ⟨#[108, 101, 110, 32, 111, 117, 116, 32, 111, 102, 32, 114, 97, 110, 103, 101]⟩))), 20, none⟩,
      ⟨none, (.panic (.tmp 21)), 0, none⟩])
    .skip)))))
    (.reg [] [⟨some 22, (.binOp .add 3 (.tmp 11) (.const (.int .i64 1)) 3), 3, none⟩,
      ⟨some 11, (.move (.tmp 22)), 3, none⟩])))))))
    (.seq (.reg [] [⟨some 23, (.move (.tmp 3)), 3, none⟩,
      ⟨some 24, (.call ⟨(.value (.func 186)), #[(.const (.slice none 0 0)), (.tmp 23)], #[23, 3]⟩), 23, none⟩,
      ⟨some 6, (.assign (.tmp 24)), 23, none⟩])
    (.seq (.seq (.reg [] [⟨some 25, (.move (.tmp 0)), 27, none⟩,
      ⟨some 26, (.call ⟨(.builtin .len), #[(.tmp 25)], #[27]⟩), 3, none⟩,
      ⟨some 27, (.move (.const (.int .i64 0))), 3, none⟩])
    (.block 2 (.loop (.seq (.reg [] [⟨some 28, (.binOp .lss 3 (.tmp 27) (.tmp 26) 3), 0, none⟩])
    (.seq (.cond (.tmp 28)
    .skip
    (.exit 2))
    (.seq (.block 3 (.seq (.reg [] [⟨some 29, (.indexAddr 27 (.tmp 25) (.tmp 27)), 0, none⟩,
      ⟨some 30, (.load 23 (.tmp 29)), 23, none⟩,
      ⟨some 8, (.assign (.tmp 30)), 23, none⟩])
    (.reg [] [⟨some 31, (.move (.tmp 6)), 23, none⟩,
      ⟨some 32, (.move (.tmp 8)), 23, none⟩,
      ⟨some 33, (.call ⟨(.builtin .append), #[(.tmp 31), (.tmp 32)], #[23, 23]⟩), 23, none⟩,
      ⟨some 6, (.assign (.tmp 33)), 23, none⟩])))
    (.reg [] [⟨some 34, (.binOp .add 3 (.tmp 27) (.const (.int .i64 1)) 3), 3, none⟩,
      ⟨some 27, (.move (.tmp 34)), 3, none⟩])))))))
    (.seq (.reg [] [⟨some 35, (.move (.tmp 6)), 23, none⟩,
      ⟨some 2, (.assign (.tmp 35)), 23, none⟩])
    .ret))))))
theorem CO177 {args : List AV} {sz : Nat} {els : List AV} (hn : args.length ≤ 36) (h : vc Tryz.prog T [] A177 (FinO [(.tmp 2)] sz els) ⟨envOf 0 args, []⟩) : CallO Tryz.prog 177 args sz els :=
  callO_of tok mixed Tryz.func177 (by kernel_rfl) (by kernel_rfl) (by kernel_rfl : Tryz.f177.ntmps = 36) (by kernel_rfl : Tryz.f177.body.bind (strip 36 (fun _ => [])) = some A177) hn h

end Go.Proofs.YtkhddecnllcaiaaGreat
end

section
/- The values of the program: numbers, words, rules, steps, choices. -/
namespace Go.Proofs.YtkhddecnllcaiaaGreat
open Go.Abs Go

@[simp] def iv (n : Int) : AV := .raw (.int .i64 n)
@[simp] def bv (b : Bool) : AV := .raw (.bool b)
@[simp] def ints (l : List Int) : AV := .seq 1 (l.map iv) false
structure Rule where
  frm : Int
  to : List Int
  left : List Int
  right : List Int
deriving DecidableEq
instance : Inhabited Rule := ⟨⟨0, [], [], []⟩⟩
@[simp] def ruleV (r : Rule) : AV := .agg [iv r.frm, ints r.to, ints r.left, ints r.right]
@[simp] def rulesV (s : List Rule) : AV := .seq 4 (s.map ruleV) false
structure Step where
  rule : Int
  place : Int
deriving DecidableEq
instance : Inhabited Step := ⟨⟨0, 0⟩⟩
@[simp] def stepV (x : Step) : AV := .agg [iv x.rule, iv x.place]
@[simp] def stepsV (l : List Step) : AV := .seq 2 (l.map stepV) false
structure Choice where
  rule : Int
  place : Int
  ground : Int
deriving DecidableEq
instance : Inhabited Choice := ⟨⟨0, 0, 0⟩⟩
@[simp] def choiceV (x : Choice) : AV := .agg [iv x.rule, iv x.place, iv x.ground]
@[simp] def choicesV (l : List Choice) : AV := .seq 3 (l.map choiceV) false

@[simp] theorem nth_iv (l : List Int) (k : Nat) (h : k < l.length) : nth (l.map iv) k = iv (el l k) := nth_map iv l k h
@[simp] theorem nth_ints (l : List (List Int)) (k : Nat) (h : k < l.length) : nth (l.map ints) k = ints (el l k) := nth_map ints l k h
@[simp] theorem nth_rule (l : List Rule) (k : Nat) (h : k < l.length) : nth (l.map ruleV) k = ruleV (el l k) := nth_map ruleV l k h
@[simp] theorem nth_step (l : List Step) (k : Nat) (h : k < l.length) : nth (l.map stepV) k = stepV (el l k) := nth_map stepV l k h
@[simp] theorem nth_choice (l : List Choice) (k : Nat) (h : k < l.length) : nth (l.map choiceV) k = choiceV (el l k) := nth_map choiceV l k h

@[simp] theorem refsL_bv : ∀ l : List Bool, AV.refsL (l.map bv) = []
  | [] => rfl
  | b :: l => by simp [refsL_bv l]
@[simp] theorem snapL_bv (m : List (Nat × Option Box)) : ∀ l : List Bool, snapL m (l.map bv) = l.map bv
  | [] => rfl
  | b :: l => by simp [snapL_bv m l]
@[simp] theorem snapOKL_bv (m : List (Nat × Option Box)) : ∀ l : List Bool, snapOKL m (l.map bv)
  | [] => trivial
  | b :: l => ⟨trivial, snapOKL_bv m l⟩
theorem nth_ge {α : Type} (f : α → AV) (l : List α) {k : Nat} (h : l.length ≤ k) : nth (l.map f) k = .junk := by
  have : ¬ k < (l.map f).length := by simpa using h
  simp [nth, List.getD_eq_getElem?_getD, List.getElem?_eq_none (Nat.le_of_not_lt this)]
@[simp] theorem nth_nil (k : Nat) : nth [] k = .junk := rfl
@[simp] theorem nth_len {α : Type} (f : α → AV) (l : List α) : nth (l.map f) l.length = .junk := by simp [nth, List.getD_eq_getElem?_getD]

attribute [simp] bad T_2 T_3 T_4 T_5 T_22 T_23 T_35 T_36 T_65 T_28 T_69 T_70 T_102 T_103 T_27 T_45 T_46 T_58 T_126 T_128 T_129 T_96 T_182 T_183 T_104 T_105 T_188 T_189 T_190
end Go.Proofs.YtkhddecnllcaiaaGreat
end

section
/- Contracts: leaves. -/
namespace Go.Proofs.YtkhddecnllcaiaaGreat
open Go.Abs Go
set_option maxRecDepth 20000
set_option maxHeartbeats 2000000
attribute [local irreducible] PreK CondK CallK CallG CallX LoopK

end Go.Proofs.YtkhddecnllcaiaaGreat
end

section
/- Contracts: grounds. -/
namespace Go.Proofs.YtkhddecnllcaiaaGreat
open Go.Abs Go
set_option maxRecDepth 20000
set_option maxHeartbeats 2000000
attribute [local irreducible] PreK CondK CallK CallG CallX LoopK

end Go.Proofs.YtkhddecnllcaiaaGreat
end

section
/- Contracts: the library's slices. -/
namespace Go.Proofs.YtkhddecnllcaiaaGreat
open Go.Abs Go
set_option maxRecDepth 20000
set_option maxHeartbeats 2000000
attribute [local irreducible] PreK CondK CallK CallG CallX LoopK

theorem clone_o (l : List Int) (hl : l.length ≤ 1000) : CallO Tryz.prog 39 [ints l] 1 (l.map iv) := by
  refine CO39 (by simp) ?_
  simp [A39, nilOK, nilArg, nilOf]
  intro b hb
  refine CondK.intro (fun h => ?_) (fun h => ?_)
  · simp at h
    have h2 := hb h
    simp at h2
    subst h2
    simp
  · simp
    refine PreK.intro (by omega) fun _ => ?_
    simp

theorem grow_o (n : Nat) (hn : n ≤ 1000) : CallO Tryz.prog 186 [.seq 1 [] true, iv n] 1 [] := by
  refine CO186 (by simp) ?_
  simp [A186]
  refine CondK.intro (fun h => ?_) (fun h => ?_)
  · simp at h
    omega
  · simp
    refine PreK.intro (by omega) fun _ => ?_
    simp
    refine CondK.intro (fun h => ?_) (fun h => ?_)
    · simp at h
      simp
      refine PreK.intro (by omega) fun _ => ?_
      simp
    · simp

theorem concat_o (ls : List (List Int)) (hn : ls.length ≤ 10) (hs : ls.flatten.length ≤ 900) : CallO Tryz.prog 177 [.seq 1 (ls.map ints) false] 1 (ls.flatten.map iv) := by
  refine CO177 (by simp) ?_
  generalize hR : ls.flatten = R at hs
  simp [A177]
  refine LoopK.by (ι := Nat × Nat) (fun i => ⟨[(11, iv i.1), (10, iv ls.length), (9, .seq 1 (ls.map ints) false), (0, .seq 1 (ls.map ints) false), (3, iv i.2)], []⟩) (fun i => ls.length - i.1)
    (fun i => i.1 ≤ ls.length ∧ i.2 + (ls.drop i.1).flatten.length = R.length) (0, 0) (by simp [← hR]) (by simp) ?_
  intro ⟨i, n⟩ Q' ⟨hi, hc⟩ hq he hr
  dsimp only at hi hc
  simp
  refine CondK.intro (fun h => ?_) (fun h => ?_)
  · simp at h
    rw [drop_cons ls i h, List.flatten_cons, List.length_append] at hc
    simp [h]
    refine PreK.intro (by omega) fun _ => ?_
    simp
    refine CondK.intro (fun h2 => ?_) (fun h2 => ?_)
    · simp at h2
      omega
    · simp
      refine PreK.intro (by omega) fun _ => ?_
      simp
      exact hq (i + 1, n + (el ls i).length) _ ⟨by dsimp only; omega, by dsimp only; omega⟩ (by dsimp only; omega) (by simp)
  · simp at h
    rw [List.drop_eq_nil_of_le (by omega)] at hc
    simp at hc
    simp
    apply he
    simp
    refine CallX.own' (by simpa using grow_o n (by omega)) (by simp) ?_
    simp
    clear hq he hr
    refine LoopK.by (ι := Nat × Nat × List Int) (fun i => ⟨[(27, iv i.1), (26, iv ls.length), (25, .seq 1 (ls.map ints) false), (6, .sl 24 i.2.1 0 i.2.2.length)], [(24, some ⟨1, i.2.2.map iv, i.2.1, false⟩)]⟩) (fun i => ls.length - i.1)
      (fun i => i.1 ≤ ls.length ∧ i.2.2 ++ (ls.drop i.1).flatten = R) (0, 1, []) (by simpa using hR) (by simp) ?_
    intro ⟨i, ver, acc⟩ Q' ⟨hi, hc⟩ hq he hr
    dsimp only at hi hc
    simp
    refine CondK.intro (fun h => ?_) (fun h => ?_)
    · simp at h
      rw [drop_cons ls i h, List.flatten_cons, ← List.append_assoc] at hc
      have hlen : acc.length + (el ls i).length ≤ 900 := by
        have := congrArg List.length hc
        simp only [List.length_append] at this
        omega
      simp [h]
      refine PreK.intro (by omega) fun _ => ?_
      simp
      refine PreK.intro (by omega) fun _ => ?_
      simp
      exact hq (i + 1, ver + 1, acc ++ el ls i) _ ⟨by dsimp only; omega, by dsimp only; exact hc⟩ (by dsimp only; omega) (by simp)
    · simp at h
      rw [List.drop_eq_nil_of_le (by omega)] at hc
      simp at hc
      simp
      apply he
      simp [hc]
end Go.Proofs.YtkhddecnllcaiaaGreat
end

section
/- Functions of the cut as the value layer reads them. (written by gen.py) -/
set_option maxRecDepth 20000
namespace Go.Proofs.YtkhddecnllcaiaaGreat
open Go.Abs Go

def A183 : ACode :=
  (.seq (.reg [] [⟨some 6, (.assign (.const (.bool false))), 4, none⟩])
    (.seq (.reg [] [⟨some 7, (.move (.tmp 1)), 3, none⟩,
      ⟨some 8, (.move (.tmp 0)), 3, none⟩,
      ⟨some 9, (.binOp .leq 3 (.tmp 7) (.tmp 8) 3), 4, none⟩,
      ⟨some 10, (.move (.tmp 9)), 4, none⟩,
      ⟨some 11, (.move (.tmp 0)), 3, some (10, true)⟩,
      ⟨some 12, (.move (.tmp 2)), 3, some (10, true)⟩,
      ⟨some 13, (.binOp .leq 3 (.tmp 11) (.tmp 12) 3), 4, some (10, true)⟩,
      ⟨some 14, (.pick (.tmp 10) (.tmp 13) (.const (.bool false))), 4, none⟩,
      ⟨some 6, (.assign (.tmp 14)), 4, none⟩])
    .ret))
theorem C183 {args : List AV} {r : AV} (hn : args.length ≤ 15) (h : vc Tryz.prog T [] A183 (Fin T [(.tmp 6)] r) ⟨envOf 0 args, []⟩) : CallP Tryz.prog 183 args r :=
  callP_of tok mixed Tryz.func183 (by kernel_rfl) (by kernel_rfl) (by kernel_rfl : Tryz.f183.ntmps = 15) (by kernel_rfl : Tryz.f183.body.bind (strip 15 (fun _ => [])) = some A183) hn h
def A167 : ACode :=
  (.seq (.reg [] [⟨some 2, (.assign (.const (.bool false))), 4, none⟩])
    (.seq (.reg [] [⟨some 3, (.move (.tmp 0)), 3, none⟩,
      ⟨some 4, (.call ⟨(.value (.func 183)), #[(.tmp 3), (.const (.int .i64 0)), (.const (.int .i64 5))], #[3, 3, 3]⟩), 4, none⟩,
      ⟨some 2, (.assign (.tmp 4)), 4, none⟩])
    .ret))
theorem C167 {args : List AV} {r : AV} (hn : args.length ≤ 5) (h : vc Tryz.prog T [] A167 (Fin T [(.tmp 2)] r) ⟨envOf 0 args, []⟩) : CallP Tryz.prog 167 args r :=
  callP_of tok mixed Tryz.func167 (by kernel_rfl) (by kernel_rfl) (by kernel_rfl : Tryz.f167.ntmps = 5) (by kernel_rfl : Tryz.f167.body.bind (strip 5 (fun _ => [])) = some A167) hn h
def A144 : ACode :=
  (.seq (.reg [] [⟨some 2, (.assign (.const (.bool false))), 4, none⟩])
    (.seq (.reg [] [⟨some 3, (.move (.tmp 0)), 3, none⟩,
      ⟨some 4, (.binOp .eql 3 (.tmp 3) (.const (.int .i64 (-1))) 3), 4, none⟩,
      ⟨some 5, (.move (.tmp 4)), 4, none⟩,
      ⟨some 6, (.move (.tmp 0)), 3, some (5, false)⟩,
      ⟨some 7, (.call ⟨(.value (.func 167)), #[(.tmp 6)], #[3]⟩), 4, some (5, false)⟩,
      ⟨some 8, (.pick (.tmp 5) (.const (.bool true)) (.tmp 7)), 4, none⟩,
      ⟨some 2, (.assign (.tmp 8)), 4, none⟩])
    .ret))
theorem C144 {args : List AV} {r : AV} (hn : args.length ≤ 9) (h : vc Tryz.prog T [] A144 (Fin T [(.tmp 2)] r) ⟨envOf 0 args, []⟩) : CallP Tryz.prog 144 args r :=
  callP_of tok mixed Tryz.func144 (by kernel_rfl) (by kernel_rfl) (by kernel_rfl : Tryz.f144.ntmps = 9) (by kernel_rfl : Tryz.f144.body.bind (strip 9 (fun _ => [])) = some A144) hn h
def A175 : ACode :=
  (.seq (.reg [] [⟨some 1, (.box 46 (.tmp 0)), 0, none⟩,
      ⟨some 2, (.assign (.const (.int .i64 0))), 3, none⟩])
    (.seq (.seq (.reg [] [⟨some 3, (.fieldAddr 46 (.tmp 1) 0), 0, none⟩,
      ⟨some 4, (.load 3 (.tmp 3)), 3, none⟩,
      ⟨some 5, (.binOp .eql 3 (.tmp 4) (.const (.int .i64 (-1))) 3), 4, none⟩])
    (.cond (.tmp 5)
    (.seq (.reg [] [⟨some 2, (.assign (.const (.int .i64 0))), 3, none⟩])
    .ret)
    .skip))
    (.seq (.reg [] [⟨some 2, (.assign (.const (.int .i64 1))), 3, none⟩])
    .ret)))
theorem C175 {args : List AV} {r : AV} (hn : args.length ≤ 6) (h : vc Tryz.prog T [] A175 (Fin T [(.tmp 2)] r) ⟨envOf 0 args, []⟩) : CallP Tryz.prog 175 args r :=
  callP_of tok mixed Tryz.func175 (by kernel_rfl) (by kernel_rfl) (by kernel_rfl : Tryz.f175.ntmps = 6) (by kernel_rfl : Tryz.f175.body.bind (strip 6 (fun _ => [])) = some A175) hn h
def A176 : ACode :=
  (.seq (.reg [] [⟨some 4, (.assign (.const (.int .i64 0))), 3, none⟩])
    (.seq (.seq (.reg [] [⟨some 5, (.move (.tmp 1)), 3, none⟩,
      ⟨some 6, (.move (.tmp 0)), 23, none⟩,
      ⟨some 7, (.call ⟨(.builtin .len), #[(.tmp 6)], #[23]⟩), 3, none⟩,
      ⟨some 8, (.binOp .sub 3 (.tmp 7) (.const (.int .i64 1)) 3), 3, none⟩,
      ⟨some 9, (.call ⟨(.value (.func 183)), #[(.tmp 5), (.const (.int .i64 0)), (.tmp 8)], #[3, 3, 3]⟩), 4, none⟩,
      ⟨some 10, (.unOp .not 4 (.tmp 9)), 4, none⟩])
    (.cond (.tmp 10)
    (.seq (.reg [] [⟨some 4, (.assign (.const (.int .i64 (-1)))), 3, none⟩])
    .ret)
    .skip))
    (.seq (.reg [] [⟨some 11, (.move (.tmp 0)), 23, none⟩,
      ⟨some 12, (.move (.tmp 1)), 3, none⟩,
      ⟨some 13, (.indexAddr 23 (.tmp 11) (.tmp 12)), 0, none⟩,
      ⟨some 14, (.load 3 (.tmp 13)), 3, none⟩,
      ⟨some 4, (.assign (.tmp 14)), 3, none⟩])
    .ret)))
theorem C176 {args : List AV} {r : AV} (hn : args.length ≤ 15) (h : vc Tryz.prog T [] A176 (Fin T [(.tmp 4)] r) ⟨envOf 0 args, []⟩) : CallP Tryz.prog 176 args r :=
  callP_of tok mixed Tryz.func176 (by kernel_rfl) (by kernel_rfl) (by kernel_rfl : Tryz.f176.ntmps = 15) (by kernel_rfl : Tryz.f176.body.bind (strip 15 (fun _ => [])) = some A176) hn h
def A171 : ACode :=
  (.seq (.reg [] [⟨some 6, (.assign (.const (.bool false))), 4, none⟩])
    (.seq (.reg [] [⟨some 7, (.move (.tmp 0)), 3, none⟩,
      ⟨some 8, (.move (.tmp 1)), 3, none⟩,
      ⟨some 9, (.binOp .geq 3 (.tmp 7) (.tmp 8) 3), 4, none⟩,
      ⟨some 10, (.move (.tmp 9)), 4, none⟩,
      ⟨some 11, (.move (.tmp 0)), 3, some (10, true)⟩,
      ⟨some 12, (.move (.tmp 2)), 3, some (10, true)⟩,
      ⟨some 13, (.binOp .leq 3 (.tmp 11) (.tmp 12) 3), 4, some (10, true)⟩,
      ⟨some 14, (.pick (.tmp 10) (.tmp 13) (.const (.bool false))), 4, none⟩,
      ⟨some 6, (.assign (.tmp 14)), 4, none⟩])
    .ret))
theorem C171 {args : List AV} {r : AV} (hn : args.length ≤ 15) (h : vc Tryz.prog T [] A171 (Fin T [(.tmp 6)] r) ⟨envOf 0 args, []⟩) : CallP Tryz.prog 171 args r :=
  callP_of tok mixed Tryz.func171 (by kernel_rfl) (by kernel_rfl) (by kernel_rfl : Tryz.f171.ntmps = 15) (by kernel_rfl : Tryz.f171.body.bind (strip 15 (fun _ => [])) = some A171) hn h
def A185 : ACode :=
  (.seq (.reg [] [⟨some 6, (.assign (.const (.bool false))), 4, none⟩])
    (.seq (.reg [] [⟨some 7, (.move (.tmp 0)), 3, none⟩,
      ⟨some 8, (.move (.tmp 1)), 3, none⟩,
      ⟨some 9, (.binOp .geq 3 (.tmp 7) (.tmp 8) 3), 4, none⟩,
      ⟨some 10, (.move (.tmp 9)), 4, none⟩,
      ⟨some 11, (.move (.tmp 0)), 3, some (10, true)⟩,
      ⟨some 12, (.move (.tmp 2)), 3, some (10, true)⟩,
      ⟨some 13, (.binOp .leq 3 (.tmp 11) (.tmp 12) 3), 4, some (10, true)⟩,
      ⟨some 14, (.pick (.tmp 10) (.tmp 13) (.const (.bool false))), 4, none⟩,
      ⟨some 6, (.assign (.tmp 14)), 4, none⟩])
    .ret))
theorem C185 {args : List AV} {r : AV} (hn : args.length ≤ 15) (h : vc Tryz.prog T [] A185 (Fin T [(.tmp 6)] r) ⟨envOf 0 args, []⟩) : CallP Tryz.prog 185 args r :=
  callP_of tok mixed Tryz.func185 (by kernel_rfl) (by kernel_rfl) (by kernel_rfl : Tryz.f185.ntmps = 15) (by kernel_rfl : Tryz.f185.body.bind (strip 15 (fun _ => [])) = some A185) hn h
def A166 : ACode :=
  (.seq (.reg [] [⟨some 2, (.assign (.const (.bool false))), 4, none⟩])
    (.seq (.reg [] [⟨some 3, (.move (.tmp 0)), 3, none⟩,
      ⟨some 4, (.call ⟨(.value (.func 167)), #[(.tmp 3)], #[3]⟩), 4, none⟩,
      ⟨some 5, (.unOp .not 4 (.tmp 4)), 4, none⟩,
      ⟨some 2, (.assign (.tmp 5)), 4, none⟩])
    .ret))
theorem C166 {args : List AV} {r : AV} (hn : args.length ≤ 6) (h : vc Tryz.prog T [] A166 (Fin T [(.tmp 2)] r) ⟨envOf 0 args, []⟩) : CallP Tryz.prog 166 args r :=
  callP_of tok mixed Tryz.func166 (by kernel_rfl) (by kernel_rfl) (by kernel_rfl : Tryz.f166.ntmps = 6) (by kernel_rfl : Tryz.f166.body.bind (strip 6 (fun _ => [])) = some A166) hn h
def A132 : ACode :=
  (.seq (.reg [] [⟨some 2, (.assign (.const (.bool false))), 4, none⟩])
    (.seq (.reg [] [⟨some 3, (.move (.tmp 0)), 23, none⟩,
      ⟨some 4, (.call ⟨(.value (.func 129)), #[(.tmp 3), (.func 166)], #[23, 111]⟩), 4, none⟩,
      ⟨some 5, (.unOp .not 4 (.tmp 4)), 4, none⟩,
      ⟨some 2, (.assign (.tmp 5)), 4, none⟩])
    .ret))
theorem C132 {args : List AV} {r : AV} (hn : args.length ≤ 6) (h : vc Tryz.prog T [] A132 (Fin T [(.tmp 2)] r) ⟨envOf 0 args, []⟩) : CallP Tryz.prog 132 args r :=
  callP_of tok mixed Tryz.func132 (by kernel_rfl) (by kernel_rfl) (by kernel_rfl : Tryz.f132.ntmps = 6) (by kernel_rfl : Tryz.f132.body.bind (strip 6 (fun _ => [])) = some A132) hn h
def A113 : ACode :=
  (.seq (.reg [] [⟨some 4, (.assign (.const (.int .i64 0))), 3, none⟩])
    (.seq (.seq (.reg [] [⟨some 6, (.move (.tmp 0)), 23, none⟩,
      ⟨some 7, (.call ⟨(.builtin .len), #[(.tmp 6)], #[23]⟩), 3, none⟩,
      ⟨some 8, (.move (.const (.int .i64 0))), 3, none⟩])
    (.block 0 (.loop (.seq (.reg [] [⟨some 9, (.binOp .lss 3 (.tmp 8) (.tmp 7) 3), 0, none⟩])
    (.seq (.cond (.tmp 9)
    .skip
    (.exit 0))
    (.seq (.block 1 (.seq (.reg [] [⟨some 10, (.move (.tmp 8)), 3, none⟩,
      ⟨some 5, (.assign (.tmp 10)), 3, none⟩])
    (.seq (.reg [] [⟨some 11, (.move (.tmp 1)), 111, none⟩,
      ⟨some 12, (.move (.tmp 0)), 23, none⟩,
      ⟨some 13, (.move (.tmp 5)), 3, none⟩,
      ⟨some 14, (.indexAddr 23 (.tmp 12) (.tmp 13)), 0, none⟩,
      ⟨some 15, (.load 3 (.tmp 14)), 3, none⟩,
      ⟨some 16, (.call ⟨(.value (.tmp 11)), #[(.tmp 15)], #[3]⟩), 4, none⟩])
    (.cond (.tmp 16)
    (.seq (.reg [] [⟨some 17, (.move (.tmp 5)), 3, none⟩,
      ⟨some 4, (.assign (.tmp 17)), 3, none⟩])
    .ret)
    .skip))))
    (.reg [] [⟨some 18, (.binOp .add 3 (.tmp 8) (.const (.int .i64 1)) 3), 3, none⟩,
      ⟨some 8, (.move (.tmp 18)), 3, none⟩])))))))
    (.seq (.reg [] [⟨some 4, (.assign (.const (.int .i64 (-1)))), 3, none⟩])
    .ret)))
theorem C113 {args : List AV} {r : AV} (hn : args.length ≤ 19) (h : vc Tryz.prog T [] A113 (Fin T [(.tmp 4)] r) ⟨envOf 0 args, []⟩) : CallP Tryz.prog 113 args r :=
  callP_of tok mixed Tryz.func113 (by kernel_rfl) (by kernel_rfl) (by kernel_rfl : Tryz.f113.ntmps = 19) (by kernel_rfl : Tryz.f113.body.bind (strip 19 (fun _ => [])) = some A113) hn h
def A129 : ACode :=
  (.seq (.reg [] [⟨some 4, (.assign (.const (.bool false))), 4, none⟩])
    (.seq (.reg [] [⟨some 5, (.move (.tmp 0)), 23, none⟩,
      ⟨some 6, (.move (.tmp 1)), 111, none⟩,
      ⟨some 7, (.call ⟨(.value (.func 113)), #[(.tmp 5), (.tmp 6)], #[23, 111]⟩), 3, none⟩,
      ⟨some 8, (.binOp .geq 3 (.tmp 7) (.const (.int .i64 0)) 3), 4, none⟩,
      ⟨some 4, (.assign (.tmp 8)), 4, none⟩])
    .ret))
theorem C129 {args : List AV} {r : AV} (hn : args.length ≤ 9) (h : vc Tryz.prog T [] A129 (Fin T [(.tmp 4)] r) ⟨envOf 0 args, []⟩) : CallP Tryz.prog 129 args r :=
  callP_of tok mixed Tryz.func129 (by kernel_rfl) (by kernel_rfl) (by kernel_rfl : Tryz.f129.ntmps = 9) (by kernel_rfl : Tryz.f129.body.bind (strip 9 (fun _ => [])) = some A129) hn h
def A131 : ACode :=
  (.seq (.reg [] [⟨some 4, (.assign (.const (.int .i64 0))), 3, none⟩])
    (.seq (.seq (.reg [] [⟨some 6, (.move (.tmp 0)), 23, none⟩,
      ⟨some 7, (.call ⟨(.builtin .len), #[(.tmp 6)], #[23]⟩), 3, none⟩,
      ⟨some 8, (.move (.const (.int .i64 0))), 3, none⟩])
    (.block 0 (.loop (.seq (.reg [] [⟨some 9, (.binOp .lss 3 (.tmp 8) (.tmp 7) 3), 0, none⟩])
    (.seq (.cond (.tmp 9)
    .skip
    (.exit 0))
    (.seq (.block 1 (.seq (.reg [] [⟨some 10, (.move (.tmp 8)), 3, none⟩,
      ⟨some 5, (.assign (.tmp 10)), 3, none⟩])
    (.seq (.reg [] [⟨some 11, (.move (.tmp 1)), 3, none⟩,
      ⟨some 12, (.move (.tmp 0)), 23, none⟩,
      ⟨some 13, (.move (.tmp 5)), 3, none⟩,
      ⟨some 14, (.indexAddr 23 (.tmp 12) (.tmp 13)), 0, none⟩,
      ⟨some 15, (.load 3 (.tmp 14)), 3, none⟩,
      ⟨some 16, (.binOp .eql 3 (.tmp 11) (.tmp 15) 3), 4, none⟩])
    (.cond (.tmp 16)
    (.seq (.reg [] [⟨some 17, (.move (.tmp 5)), 3, none⟩,
      ⟨some 4, (.assign (.tmp 17)), 3, none⟩])
    .ret)
    .skip))))
    (.reg [] [⟨some 18, (.binOp .add 3 (.tmp 8) (.const (.int .i64 1)) 3), 3, none⟩,
      ⟨some 8, (.move (.tmp 18)), 3, none⟩])))))))
    (.seq (.reg [] [⟨some 4, (.assign (.const (.int .i64 (-1)))), 3, none⟩])
    .ret)))
theorem C131 {args : List AV} {r : AV} (hn : args.length ≤ 19) (h : vc Tryz.prog T [] A131 (Fin T [(.tmp 4)] r) ⟨envOf 0 args, []⟩) : CallP Tryz.prog 131 args r :=
  callP_of tok mixed Tryz.func131 (by kernel_rfl) (by kernel_rfl) (by kernel_rfl : Tryz.f131.ntmps = 19) (by kernel_rfl : Tryz.f131.body.bind (strip 19 (fun _ => [])) = some A131) hn h
def A93 : ACode :=
  (.seq (.reg [] [⟨some 4, (.assign (.const (.bool false))), 4, none⟩])
    (.seq (.reg [] [⟨some 5, (.move (.tmp 0)), 23, none⟩,
      ⟨some 6, (.move (.tmp 1)), 3, none⟩,
      ⟨some 7, (.call ⟨(.value (.func 131)), #[(.tmp 5), (.tmp 6)], #[23, 3]⟩), 3, none⟩,
      ⟨some 8, (.binOp .geq 3 (.tmp 7) (.const (.int .i64 0)) 3), 4, none⟩,
      ⟨some 4, (.assign (.tmp 8)), 4, none⟩])
    .ret))
theorem C93 {args : List AV} {r : AV} (hn : args.length ≤ 9) (h : vc Tryz.prog T [] A93 (Fin T [(.tmp 4)] r) ⟨envOf 0 args, []⟩) : CallP Tryz.prog 93 args r :=
  callP_of tok mixed Tryz.func93 (by kernel_rfl) (by kernel_rfl) (by kernel_rfl : Tryz.f93.ntmps = 9) (by kernel_rfl : Tryz.f93.body.bind (strip 9 (fun _ => [])) = some A93) hn h
def A49 : ACode :=
  (.seq (.reg [] [⟨some 4, (.assign (.const (.bool false))), 4, none⟩])
    (.seq (.seq (.reg [] [⟨some 6, (.move (.tmp 0)), 23, none⟩,
      ⟨some 7, (.call ⟨(.builtin .len), #[(.tmp 6)], #[23]⟩), 3, none⟩,
      ⟨some 8, (.move (.tmp 1)), 23, none⟩,
      ⟨some 9, (.call ⟨(.builtin .len), #[(.tmp 8)], #[23]⟩), 3, none⟩,
      ⟨some 10, (.binOp .neq 3 (.tmp 7) (.tmp 9) 3), 4, none⟩])
    (.cond (.tmp 10)
    (.seq (.reg [] [⟨some 4, (.assign (.const (.bool false))), 4, none⟩])
    .ret)
    .skip))
    (.seq (.seq (.reg [] [⟨some 11, (.move (.tmp 0)), 23, none⟩,
      ⟨some 12, (.call ⟨(.builtin .len), #[(.tmp 11)], #[23]⟩), 3, none⟩,
      ⟨some 13, (.move (.const (.int .i64 0))), 3, none⟩])
    (.block 0 (.loop (.seq (.reg [] [⟨some 14, (.binOp .lss 3 (.tmp 13) (.tmp 12) 3), 0, none⟩])
    (.seq (.cond (.tmp 14)
    .skip
    (.exit 0))
    (.seq (.block 1 (.seq (.reg [] [⟨some 15, (.move (.tmp 13)), 3, none⟩,
      ⟨some 5, (.assign (.tmp 15)), 3, none⟩])
    (.seq (.draw [] [⟨some 16, (.move (.tmp 0)), 23, none⟩,
      ⟨some 17, (.move (.tmp 5)), 3, none⟩,
      ⟨some 18, (.indexAddr 23 (.tmp 16) (.tmp 17)), 0, none⟩,
      ⟨some 19, (.load 3 (.tmp 18)), 3, none⟩,
      ⟨some 20, (.move (.tmp 1)), 23, none⟩,
      ⟨some 21, (.move (.tmp 5)), 3, none⟩,
      ⟨some 22, (.indexAddr 23 (.tmp 20) (.tmp 21)), 0, none⟩,
      ⟨some 23, (.load 3 (.tmp 22)), 3, none⟩,
      ⟨some 24, (.binOp .neq 3 (.tmp 19) (.tmp 23) 3), 4, none⟩] [(0, 1), (0, 4), (1, 4), (2, 4), (3, 4), (0, 5), (1, 5), (2, 5), (3, 5), (4, 5), (0, 6), (1, 6), (2, 6), (3, 6), (0, 7), (1, 7), (2, 7), (3, 7)])
    (.cond (.tmp 24)
    (.seq (.reg [] [⟨some 4, (.assign (.const (.bool false))), 4, none⟩])
    .ret)
    .skip))))
    (.reg [] [⟨some 25, (.binOp .add 3 (.tmp 13) (.const (.int .i64 1)) 3), 3, none⟩,
      ⟨some 13, (.move (.tmp 25)), 3, none⟩])))))))
    (.seq (.reg [] [⟨some 4, (.assign (.const (.bool true))), 4, none⟩])
    .ret))))
theorem C49 {args : List AV} {r : AV} (hn : args.length ≤ 26) (h : vc Tryz.prog T [] A49 (Fin T [(.tmp 4)] r) ⟨envOf 0 args, []⟩) : CallP Tryz.prog 49 args r :=
  callP_of tok mixed Tryz.func49 (by kernel_rfl) (by kernel_rfl) (by kernel_rfl : Tryz.f49.ntmps = 26) (by kernel_rfl : Tryz.f49.body.bind (strip 26 (fun _ => [])) = some A49) hn h
def A148 : ACode :=
  (.seq (.reg [] [⟨some 2, (.assign (.const (.slice none 0 0))), 23, none⟩,
      ⟨some 3, (.assign (.const (.int .i64 0))), 28, none⟩])
    (.seq (.seq (.reg [] [⟨some 4, (.move (.tmp 0)), 23, none⟩,
      ⟨some 5, (.call ⟨(.builtin .len), #[(.tmp 4)], #[23]⟩), 3, none⟩,
      ⟨some 6, (.binOp .gtr 3 (.tmp 5) (.const (.int .i64 8)) 3), 4, none⟩])
    (.cond (.tmp 6)
    (.seq (.reg [] [⟨some 2, (.assign (.const (.slice none 0 0))), 23, none⟩,
      ⟨some 3, (.assign (.const (.int .i64 3))), 28, none⟩])
    .ret)
    .skip))
    (.seq (.reg [] [⟨some 7, (.move (.tmp 0)), 23, none⟩,
      ⟨some 2, (.assign (.tmp 7)), 23, none⟩,
      ⟨some 3, (.assign (.const (.int .i64 0))), 28, none⟩])
    .ret)))
theorem C148 {args : List AV} {r : AV} (hn : args.length ≤ 8) (h : vc Tryz.prog T [] A148 (Fin T [(.tmp 2), (.tmp 3)] r) ⟨envOf 0 args, []⟩) : CallP Tryz.prog 148 args r :=
  callP_of tok mixed Tryz.func148 (by kernel_rfl) (by kernel_rfl) (by kernel_rfl : Tryz.f148.ntmps = 8) (by kernel_rfl : Tryz.f148.body.bind (strip 8 (fun _ => [])) = some A148) hn h

end Go.Proofs.YtkhddecnllcaiaaGreat
end

section
/- Contracts: leaves of package rule. -/
namespace Go.Proofs.YtkhddecnllcaiaaGreat
open Go.Abs Go
set_option maxRecDepth 20000
set_option maxHeartbeats 2000000
attribute [local irreducible] PreK CondK CallK CallG CallX LoopK

theorem within_c (n lo hi : Int) : CallP Tryz.prog 183 [iv n, iv lo, iv hi] (bv (decide (lo ≤ n) && decide (n ≤ hi))) := by
  refine C183 (by simp) ?_
  simp [A183]
def isSound (n : Int) : Bool := decide (0 ≤ n) && decide (n ≤ 5)
theorem isSound_c (n : Int) : CallP Tryz.prog 167 [iv n] (bv (isSound n)) := by
  refine C167 (by simp) ?_
  simp [A167]
  refine CallX.pure (by simpa using within_c n 0 5) (by simp) (by simp) ?_
  simp [isSound]
def isNeighbor (n : Int) : Bool := decide (n = -1) || isSound n
theorem isNeighbor_c (n : Int) : CallP Tryz.prog 144 [iv n] (bv (isNeighbor n)) := by
  refine C144 (by simp) ?_
  simp [A144]
  refine CallG.intro (fun _ => by simpa using isSound_c n) (by simp) (by simp) ?_
  simp [isNeighbor]
theorem notSound_c (n : Int) : CallP Tryz.prog 166 [iv n] (bv (!isSound n)) := by
  refine C166 (by simp) ?_
  simp [A166]
  refine CallX.pure (by simpa using isSound_c n) (by simp) (by simp) ?_
  simp
def long (r : Rule) : Int := if r.frm = -1 then 0 else 1
theorem long_c (r : Rule) : CallP Tryz.prog 175 [ruleV r] (iv (long r)) := by
  refine C175 (by simp) ?_
  simp [A175]
  refine CondK.intro (fun h => ?_) (fun h => ?_)
  · simp at h
    simp [long, h]
  · simp at h
    simp [long, h]
def atW (w : List Int) (i : Int) : Int := if 0 ≤ i ∧ i < w.length then el w i.toNat else -1
theorem at_c (w : List Int) (i : Int) (hw : w.length ≤ 1000) : CallP Tryz.prog 176 [ints w, iv i] (iv (atW w i)) := by
  refine C176 (by simp) ?_
  simp [A176]
  refine PreK.intro (by omega) fun _ => ?_
  simp
  refine CallX.pure (by simpa using within_c i 0 (w.length - 1)) (by simp) (by simp) ?_
  simp
  refine CondK.intro (fun h => ?_) (fun h => ?_)
  · simp at h
    have : ¬ (0 ≤ i ∧ i < w.length) := by omega
    simp [atW, this]
  · simp at h
    have h2 : 0 ≤ i ∧ i < w.length := by omega
    simp [h2, show i.toNat < w.length by omega]
    simp [atW, h2]
end Go.Proofs.YtkhddecnllcaiaaGreat
end

section
/- Contracts: the library's searches in []int. -/
namespace Go.Proofs.YtkhddecnllcaiaaGreat
open Go.Abs Go
set_option maxRecDepth 20000
set_option maxHeartbeats 2000000
attribute [local irreducible] PreK CondK CallK CallG CallX LoopK

def idxF (p : Int → Bool) : Nat → List Int → Int
  | _, [] => -1
  | k, x :: r => if p x then k else idxF p (k + 1) r
theorem idxF_any (p : Int → Bool) : ∀ (l : List Int) (k : Nat), decide (0 ≤ idxF p k l) = l.any p
  | [], k => by simp [idxF]
  | x :: r, k => by
    by_cases h : p x = true
    · simp [idxF, h]
    · simp [idxF, h, idxF_any p r (k + 1)]

theorem indexFunc_c (l : List Int) (hl : l.length ≤ big) (f : FuncId) (cap : List AV) (p : Int → Bool) (hp : ∀ x, CallP Tryz.prog f (iv x :: cap) (bv (p x))) (h1 : ∀ m, snapL m cap = cap) (h2 : AV.refsL cap = []) (h3 : ∀ m, snapOKL m cap) :
    CallP Tryz.prog 113 [ints l, .fn f [] cap] (iv (idxF p 0 l)) := by
  refine C113 (by simp) ?_
  generalize hR : idxF p 0 l = R
  simp [A113]
  refine LoopK.by (fun i : Nat => ⟨[(8, iv i), (7, iv l.length), (0, ints l), (1, .fn f [] cap)], []⟩) (fun i => l.length - i) (fun i => i ≤ l.length ∧ idxF p i (l.drop i) = R) 0 (by simpa using hR) (by simp [h2]) ?_
  intro i Q' ⟨hi, hc⟩ hq he hr
  simp
  refine CondK.intro (fun h => ?_) (fun h => ?_)
  · simp at h
    rw [drop_cons l i h] at hc
    simp [h]
    refine CallX.pure (by simpa [h1] using hp (el l i)) (by simp [h3]) (by simp) ?_
    simp
    refine CondK.intro (fun h4 => ?_) (fun h4 => ?_)
    · simp [idxF, h4] at hc
      simp
      apply hr
      simp [hc]
    · simp [idxF, h4] at hc
      simp
      refine PreK.intro (by simp only [big] at hl; omega) fun _ => ?_
      simp
      exact hq (i + 1) _ ⟨by omega, hc⟩ (by omega) (by simp [h2])
  · simp at h
    rw [List.drop_eq_nil_of_le (by omega)] at hc
    simp [idxF] at hc
    simp
    apply he
    simp [hc]

theorem containsFunc_c (l : List Int) (hl : l.length ≤ big) (f : FuncId) (cap : List AV) (p : Int → Bool) (hp : ∀ x, CallP Tryz.prog f (iv x :: cap) (bv (p x))) (h1 : ∀ m, snapL m cap = cap) (h2 : AV.refsL cap = []) (h3 : ∀ m, snapOKL m cap) :
    CallP Tryz.prog 129 [ints l, .fn f [] cap] (bv (l.any p)) := by
  refine C129 (by simp) ?_
  rw [← idxF_any p l 0]
  simp [A129]
  refine CallX.pure (by simpa [h1] using indexFunc_c l hl f cap p hp h1 h2 h3) (by simp [h3]) (by simp) ?_
  simp

theorem index_c (l : List Int) (n : Int) (hl : l.length ≤ big) : CallP Tryz.prog 131 [ints l, iv n] (iv (idxF (fun x => decide (n = x)) 0 l)) := by
  refine C131 (by simp) ?_
  generalize hR : idxF (fun x => decide (n = x)) 0 l = R
  simp [A131]
  refine LoopK.by (fun i : Nat => ⟨[(8, iv i), (7, iv l.length), (0, ints l), (1, iv n)], []⟩) (fun i => l.length - i) (fun i => i ≤ l.length ∧ idxF (fun x => decide (n = x)) i (l.drop i) = R) 0 (by simpa using hR) (by simp) ?_
  intro i Q' ⟨hi, hc⟩ hq he hr
  simp
  refine CondK.intro (fun h => ?_) (fun h => ?_)
  · simp at h
    rw [drop_cons l i h] at hc
    simp [h]
    refine CondK.intro (fun h4 => ?_) (fun h4 => ?_)
    · simp at h4
      simp [idxF, h4] at hc
      simp
      apply hr
      simp [hc]
    · simp at h4
      simp [idxF, h4] at hc
      simp
      refine PreK.intro (by simp only [big] at hl; omega) fun _ => ?_
      simp
      exact hq (i + 1) _ ⟨by omega, hc⟩ (by omega) (by simp)
  · simp at h
    rw [List.drop_eq_nil_of_le (by omega)] at hc
    simp [idxF] at hc
    simp
    apply he
    simp [hc]

theorem contains_c (l : List Int) (n : Int) (hl : l.length ≤ big) : CallP Tryz.prog 93 [ints l, iv n] (bv (l.any fun x => decide (n = x))) := by
  refine C93 (by simp) ?_
  rw [← idxF_any _ l 0]
  simp [A93]
  refine CallX.pure (by simpa using index_c l n hl) (by simp) (by simp) ?_
  simp

theorem areSounds_c (l : List Int) (hl : l.length ≤ big) : CallP Tryz.prog 132 [ints l] (bv (!l.any fun x => !isSound x)) := by
  refine C132 (by simp) ?_
  simp [A132]
  refine CallX.pure (by simpa using containsFunc_c l hl 166 [] (fun x => !isSound x) notSound_c (by simp) (by simp) (by simp)) (by simp) (by simp) ?_
  simp
end Go.Proofs.YtkhddecnllcaiaaGreat
end

section
/- Functions of the cut as the value layer reads them. (written by gen.py) -/
set_option maxRecDepth 20000
namespace Go.Proofs.YtkhddecnllcaiaaGreat
open Go.Abs Go

def A94 : ACode :=
  (.seq (.reg [] [⟨some 2, (.assign (.const (.int .i64 0))), 28, none⟩])
    (.seq (.seq (.reg [] [⟨some 3, (.move (.tmp 0)), 23, none⟩,
      ⟨some 4, (.call ⟨(.builtin .len), #[(.tmp 3)], #[23]⟩), 3, none⟩,
      ⟨some 5, (.binOp .gtr 3 (.tmp 4) (.const (.int .i64 8)) 3), 4, none⟩])
    (.cond (.tmp 5)
    (.seq (.reg [] [⟨some 2, (.assign (.const (.int .i64 3))), 28, none⟩])
    .ret)
    .skip))
    (.seq (.seq (.reg [] [⟨some 6, (.move (.tmp 0)), 23, none⟩,
      ⟨some 7, (.call ⟨(.value (.func 132)), #[(.tmp 6)], #[23]⟩), 4, none⟩,
      ⟨some 8, (.unOp .not 4 (.tmp 7)), 4, none⟩])
    (.cond (.tmp 8)
    (.seq (.reg [] [⟨some 2, (.assign (.const (.int .i64 1))), 28, none⟩])
    .ret)
    .skip))
    (.seq (.reg [] [⟨some 2, (.assign (.const (.int .i64 0))), 28, none⟩])
    .ret))))
theorem C94 {args : List AV} {r : AV} (hn : args.length ≤ 9) (h : vc Tryz.prog T [] A94 (Fin T [(.tmp 2)] r) ⟨envOf 0 args, []⟩) : CallP Tryz.prog 94 args r :=
  callP_of tok mixed Tryz.func94 (by kernel_rfl) (by kernel_rfl) (by kernel_rfl : Tryz.f94.ntmps = 9) (by kernel_rfl : Tryz.f94.body.bind (strip 9 (fun _ => [])) = some A94) hn h
def A145 : ACode :=
  (.seq (.reg [] [⟨some 2, (.assign (.const (.bool false))), 4, none⟩])
    (.seq (.seq (.reg [] [⟨some 5, (.move (.tmp 0)), 23, none⟩,
      ⟨some 6, (.call ⟨(.builtin .len), #[(.tmp 5)], #[23]⟩), 3, none⟩,
      ⟨some 7, (.move (.const (.int .i64 0))), 3, none⟩])
    (.block 0 (.loop (.seq (.reg [] [⟨some 8, (.binOp .lss 3 (.tmp 7) (.tmp 6) 3), 0, none⟩])
    (.seq (.cond (.tmp 8)
    .skip
    (.exit 0))
    (.seq (.block 1 (.seq (.reg [] [⟨some 9, (.move (.tmp 7)), 3, none⟩,
      ⟨some 10, (.indexAddr 23 (.tmp 5) (.tmp 7)), 0, none⟩,
      ⟨some 11, (.load 3 (.tmp 10)), 3, none⟩,
      ⟨some 3, (.assign (.tmp 9)), 3, none⟩,
      ⟨some 4, (.assign (.tmp 11)), 3, none⟩])
    (.seq (.reg [] [⟨some 12, (.move (.tmp 4)), 3, none⟩,
      ⟨some 13, (.call ⟨(.value (.func 144)), #[(.tmp 12)], #[3]⟩), 4, none⟩,
      ⟨some 14, (.unOp .not 4 (.tmp 13)), 4, none⟩,
      ⟨some 15, (.move (.tmp 14)), 4, none⟩,
      ⟨some 16, (.move (.tmp 3)), 3, some (15, false)⟩,
      ⟨some 17, (.binOp .gtr 3 (.tmp 16) (.const (.int .i64 0)) 3), 4, some (15, false)⟩,
      ⟨some 18, (.move (.tmp 17)), 4, some (15, false)⟩,
      ⟨some 19, (.move (.tmp 0)), 23, some (18, true)⟩,
      ⟨some 20, (.move (.tmp 3)), 3, some (18, true)⟩,
      ⟨some 21, (.binOp .sub 3 (.tmp 20) (.const (.int .i64 1)) 3), 3, some (18, true)⟩,
      ⟨some 22, (.indexAddr 23 (.tmp 19) (.tmp 21)), 0, some (18, true)⟩,
      ⟨some 23, (.load 3 (.tmp 22)), 3, some (18, true)⟩,
      ⟨some 24, (.move (.tmp 4)), 3, some (18, true)⟩,
      ⟨some 25, (.binOp .geq 3 (.tmp 23) (.tmp 24) 3), 4, some (18, true)⟩,
      ⟨some 26, (.pick (.tmp 18) (.tmp 25) (.const (.bool false))), 4, some (15, false)⟩,
      ⟨some 27, (.pick (.tmp 15) (.const (.bool true)) (.tmp 26)), 4, none⟩])
    (.cond (.tmp 27)
    (.seq (.reg [] [⟨some 2, (.assign (.const (.bool false))), 4, none⟩])
    .ret)
    .skip))))
    (.reg [] [⟨some 28, (.binOp .add 3 (.tmp 7) (.const (.int .i64 1)) 3), 3, none⟩,
      ⟨some 7, (.move (.tmp 28)), 3, none⟩])))))))
    (.seq (.reg [] [⟨some 2, (.assign (.const (.bool true))), 4, none⟩])
    .ret)))
theorem C145 {args : List AV} {r : AV} (hn : args.length ≤ 29) (h : vc Tryz.prog T [] A145 (Fin T [(.tmp 2)] r) ⟨envOf 0 args, []⟩) : CallP Tryz.prog 145 args r :=
  callP_of tok mixed Tryz.func145 (by kernel_rfl) (by kernel_rfl) (by kernel_rfl : Tryz.f145.ntmps = 29) (by kernel_rfl : Tryz.f145.body.bind (strip 29 (fun _ => [])) = some A145) hn h
def A100 : ACode :=
  (.seq (.reg [] [⟨some 1, (.box 46 (.tmp 0)), 0, none⟩,
      ⟨some 2, (.assign (.const (.int .i64 0))), 28, none⟩])
    (.seq (.block 0 (.seq (.reg [] [⟨some 4, (.fieldAddr 46 (.tmp 1) 0), 0, none⟩,
      ⟨some 5, (.load 3 (.tmp 4)), 3, none⟩,
      ⟨some 6, (.call ⟨(.value (.func 144)), #[(.tmp 5)], #[3]⟩), 4, none⟩,
      ⟨some 7, (.unOp .not 4 (.tmp 6)), 4, none⟩,
      ⟨some 3, (.assign (.tmp 7)), 4, none⟩])
    (.cond (.tmp 3)
    (.seq (.reg [] [⟨some 2, (.assign (.const (.int .i64 1))), 28, none⟩])
    .ret)
    (.seq (.reg [] [⟨some 9, (.fieldAddr 46 (.tmp 1) 1), 0, none⟩,
      ⟨some 10, (.load 23 (.tmp 9)), 23, none⟩,
      ⟨some 11, (.call ⟨(.builtin .len), #[(.tmp 10)], #[23]⟩), 3, none⟩,
      ⟨some 12, (.binOp .gtr 3 (.tmp 11) (.const (.int .i64 2)) 3), 4, none⟩,
      ⟨some 8, (.assign (.tmp 12)), 4, none⟩])
    (.cond (.tmp 8)
    (.seq (.reg [] [⟨some 2, (.assign (.const (.int .i64 3))), 28, none⟩])
    .ret)
    (.seq (.reg [] [⟨some 14, (.fieldAddr 46 (.tmp 1) 1), 0, none⟩,
      ⟨some 15, (.load 23 (.tmp 14)), 23, none⟩,
      ⟨some 16, (.call ⟨(.value (.func 132)), #[(.tmp 15)], #[23]⟩), 4, none⟩,
      ⟨some 17, (.unOp .not 4 (.tmp 16)), 4, none⟩,
      ⟨some 18, (.move (.tmp 17)), 4, none⟩,
      ⟨some 19, (.fieldAddr 46 (.tmp 1) 2), 0, some (18, false)⟩,
      ⟨some 20, (.load 23 (.tmp 19)), 23, some (18, false)⟩,
      ⟨some 21, (.call ⟨(.value (.func 145)), #[(.tmp 20)], #[23]⟩), 4, some (18, false)⟩,
      ⟨some 22, (.unOp .not 4 (.tmp 21)), 4, some (18, false)⟩,
      ⟨some 23, (.pick (.tmp 18) (.const (.bool true)) (.tmp 22)), 4, none⟩,
      ⟨some 24, (.move (.tmp 23)), 4, none⟩,
      ⟨some 25, (.fieldAddr 46 (.tmp 1) 3), 0, some (24, false)⟩,
      ⟨some 26, (.load 23 (.tmp 25)), 23, some (24, false)⟩,
      ⟨some 27, (.call ⟨(.value (.func 145)), #[(.tmp 26)], #[23]⟩), 4, some (24, false)⟩,
      ⟨some 28, (.unOp .not 4 (.tmp 27)), 4, some (24, false)⟩,
      ⟨some 29, (.pick (.tmp 24) (.const (.bool true)) (.tmp 28)), 4, none⟩,
      ⟨some 13, (.assign (.tmp 29)), 4, none⟩])
    (.cond (.tmp 13)
    (.seq (.reg [] [⟨some 2, (.assign (.const (.int .i64 1))), 28, none⟩])
    .ret)
    (.seq (.seq (.reg [] [⟨some 31, (.fieldAddr 46 (.tmp 1) 0), 0, none⟩,
      ⟨some 32, (.load 3 (.tmp 31)), 3, none⟩,
      ⟨some 33, (.binOp .eql 3 (.tmp 32) (.const (.int .i64 (-1))) 3), 4, none⟩,
      ⟨some 34, (.move (.tmp 33)), 4, none⟩,
      ⟨some 35, (.fieldAddr 46 (.tmp 1) 1), 0, some (34, true)⟩,
      ⟨some 36, (.load 23 (.tmp 35)), 23, some (34, true)⟩,
      ⟨some 37, (.call ⟨(.builtin .len), #[(.tmp 36)], #[23]⟩), 3, some (34, true)⟩,
      ⟨some 38, (.binOp .eql 3 (.tmp 37) (.const (.int .i64 0)) 3), 4, some (34, true)⟩,
      ⟨some 39, (.pick (.tmp 34) (.tmp 38) (.const (.bool false))), 4, none⟩,
      ⟨some 30, (.assign (.tmp 39)), 4, none⟩])
    (.cond (.tmp 30)
    .skip
    (.reg [] [⟨some 40, (.fieldAddr 46 (.tmp 1) 1), 0, none⟩,
      ⟨some 41, (.load 23 (.tmp 40)), 23, none⟩,
      ⟨some 42, (.fieldAddr 46 (.tmp 1) 0), 0, none⟩,
      ⟨some 43, (.load 3 (.tmp 42)), 3, none⟩,
      ⟨some 44, (.buildSlice 23 1 #[(0, (.tmp 43))]), 23, none⟩,
      ⟨some 45, (.call ⟨(.value (.func 49)), #[(.tmp 41), (.tmp 44)], #[23, 23]⟩), 4, none⟩,
      ⟨some 30, (.assign (.tmp 45)), 4, none⟩])))
    (.cond (.tmp 30)
    (.seq (.reg [] [⟨some 2, (.assign (.const (.int .i64 6))), 28, none⟩])
    .ret)
    .skip)))))))))
    (.seq (.reg [] [⟨some 2, (.assign (.const (.int .i64 0))), 28, none⟩])
    .ret)))
theorem C100 {args : List AV} {r : AV} (hn : args.length ≤ 46) (h : vc Tryz.prog T [] A100 (Fin T [(.tmp 2)] r) ⟨envOf 0 args, []⟩) : CallP Tryz.prog 100 args r :=
  callP_of tok mixed Tryz.func100 (by kernel_rfl) (by kernel_rfl) (by kernel_rfl : Tryz.f100.ntmps = 46) (by kernel_rfl : Tryz.f100.body.bind (strip 46 (fun _ => [])) = some A100) hn h
def A146 : ACode :=
  (.seq (.reg [] [⟨some 2, (.box 46 (.tmp 0)), 0, none⟩,
      ⟨some 4, (.assign (.const (.int .i64 0))), 28, none⟩])
    (.seq (.seq (.reg [] [⟨some 6, (.load 46 (.tmp 2)), 46, none⟩,
      ⟨some 7, (.call ⟨(.value (.func 100)), #[(.tmp 6)], #[46]⟩), 28, none⟩,
      ⟨some 5, (.assign (.tmp 7)), 28, none⟩])
    (.seq (.reg [] [⟨some 8, (.move (.tmp 5)), 28, none⟩,
      ⟨some 9, (.binOp .neq 28 (.tmp 8) (.const (.int .i64 0)) 28), 4, none⟩])
    (.cond (.tmp 9)
    (.seq (.reg [] [⟨some 10, (.move (.tmp 5)), 28, none⟩,
      ⟨some 4, (.assign (.tmp 10)), 28, none⟩])
    .ret)
    .skip)))
    (.seq (.reg [] [⟨some 11, (.move (.tmp 1)), 23, none⟩,
      ⟨some 12, (.call ⟨(.value (.func 94)), #[(.tmp 11)], #[23]⟩), 28, none⟩,
      ⟨some 4, (.assign (.tmp 12)), 28, none⟩])
    .ret)))
theorem C146 {args : List AV} {r : AV} (hn : args.length ≤ 13) (h : vc Tryz.prog T [] A146 (Fin T [(.tmp 4)] r) ⟨envOf 0 args, []⟩) : CallP Tryz.prog 146 args r :=
  callP_of tok mixed Tryz.func146 (by kernel_rfl) (by kernel_rfl) (by kernel_rfl : Tryz.f146.ntmps = 13) (by kernel_rfl : Tryz.f146.body.bind (strip 13 (fun _ => [])) = some A146) hn h
def A173 : ACode :=
  (.seq (.reg [] [⟨some 2, (.alloc 183), 0, none⟩])
    (.seq (.reg [] [⟨some 3, (.alloc 183), 0, none⟩])
    (.seq (.seq (.reg [] [⟨some 5, (.move (.const (.int .i64 0))), 3, none⟩])
    (.block 0 (.loop (.seq (.reg [] [⟨some 6, (.binOp .lss 3 (.tmp 5) (.const (.int .i64 7)) 3), 0, none⟩])
    (.seq (.cond (.tmp 6)
    .skip
    (.exit 0))
    (.seq (.block 1 (.seq (.reg [] [⟨some 7, (.move (.tmp 5)), 3, none⟩,
      ⟨some 4, (.assign (.tmp 7)), 3, none⟩])
    (.reg [] [⟨some 8, (.move (.tmp 4)), 3, none⟩,
      ⟨some 9, (.move (.tmp 0)), 23, none⟩,
      ⟨some 10, (.call ⟨(.builtin .len), #[(.tmp 9)], #[23]⟩), 3, none⟩,
      ⟨some 11, (.binOp .eql 3 (.tmp 10) (.const (.int .i64 0)) 3), 4, none⟩,
      ⟨some 12, (.move (.tmp 11)), 4, none⟩,
      ⟨some 13, (.move (.tmp 0)), 23, some (12, false)⟩,
      ⟨some 14, (.move (.tmp 4)), 3, some (12, false)⟩,
      ⟨some 15, (.binOp .sub 3 (.tmp 14) (.const (.int .i64 1)) 3), 3, some (12, false)⟩,
      ⟨some 16, (.call ⟨(.value (.func 93)), #[(.tmp 13), (.tmp 15)], #[23, 3]⟩), 4, some (12, false)⟩,
      ⟨some 17, (.pick (.tmp 12) (.const (.bool true)) (.tmp 16)), 4, none⟩,
      ⟨some 18, (.indexAddr 183 (.tmp 3) (.tmp 8)), 0, none⟩,
      ⟨none, (.store 4 (.tmp 18) (.tmp 17)), 0, none⟩])))
    (.reg [] [⟨some 19, (.binOp .add 3 (.tmp 5) (.const (.int .i64 1)) 3), 3, none⟩,
      ⟨some 5, (.move (.tmp 19)), 3, none⟩])))))))
    (.seq (.reg [] [⟨some 20, (.load 183 (.tmp 3)), 183, none⟩,
      ⟨none, (.store 183 (.tmp 2) (.tmp 20)), 0, none⟩])
    .ret))))
theorem C173 {args : List AV} {r : AV} (hn : args.length ≤ 21) (h : vc Tryz.prog T [] A173 (Fin T [(.cell 2 183)] r) ⟨envOf 0 args, []⟩) : CallP Tryz.prog 173 args r :=
  callP_of tok mixed Tryz.func173 (by kernel_rfl) (by kernel_rfl) (by kernel_rfl : Tryz.f173.ntmps = 21) (by kernel_rfl : Tryz.f173.body.bind (strip 21 (fun _ => [])) = some A173) hn h
def A147 : ACode :=
  (.seq (.reg [] [⟨some 2, (.box 46 (.tmp 0)), 0, none⟩,
      ⟨some 4, (.assign (.const (.slice none 0 0))), 23, none⟩])
    (.seq (.draw [] [⟨some 9, (.fieldAddr 46 (.tmp 2) 2), 0, none⟩,
      ⟨some 10, (.load 23 (.tmp 9)), 23, none⟩,
      ⟨some 11, (.call ⟨(.value (.func 173)), #[(.tmp 10)], #[23]⟩), 183, none⟩,
      ⟨some 12, (.makeFunc (.func 174) #[(.tmp 11)] #[]), 111, none⟩,
      ⟨some 13, (.fieldAddr 46 (.tmp 2) 3), 0, none⟩,
      ⟨some 14, (.load 23 (.tmp 13)), 23, none⟩,
      ⟨some 15, (.call ⟨(.value (.func 173)), #[(.tmp 14)], #[23]⟩), 183, none⟩,
      ⟨some 16, (.makeFunc (.func 174) #[(.tmp 15)] #[]), 111, none⟩,
      ⟨some 5, (.assign (.tmp 12)), 111, none⟩,
      ⟨some 6, (.assign (.tmp 16)), 111, none⟩] [(0, 4), (1, 4), (2, 4), (3, 4), (0, 5), (1, 5), (2, 5), (3, 5), (3, 6), (3, 7), (7, 8)])
    (.seq (.reg [] [⟨some 7, (.assign (.const (.slice none 0 0))), 23, none⟩])
    (.seq (.seq (.reg [] [⟨some 17, (.move (.tmp 1)), 23, none⟩,
      ⟨some 18, (.call ⟨(.builtin .len), #[(.tmp 17)], #[23]⟩), 3, none⟩,
      ⟨some 19, (.binOp .add 3 (.tmp 18) (.const (.int .i64 1)) 3), 3, none⟩,
      ⟨some 20, (.load 46 (.tmp 2)), 46, none⟩,
      ⟨some 21, (.call ⟨(.value (.func 175)), #[(.tmp 20)], #[46]⟩), 3, none⟩,
      ⟨some 22, (.binOp .sub 3 (.tmp 19) (.tmp 21) 3), 3, none⟩,
      ⟨some 23, (.move (.const (.int .i64 0))), 3, none⟩])
    (.block 0 (.loop (.seq (.reg [] [⟨some 24, (.binOp .lss 3 (.tmp 23) (.tmp 22) 3), 4, none⟩])
    (.seq (.cond (.tmp 24)
    .skip
    (.exit 0))
    (.seq (.block 1 (.seq (.reg [] [⟨some 25, (.move (.tmp 23)), 3, none⟩,
      ⟨some 8, (.assign (.tmp 25)), 3, none⟩])
    (.seq (.draw [] [⟨some 26, (.fieldAddr 46 (.tmp 2) 0), 0, none⟩,
      ⟨some 27, (.load 3 (.tmp 26)), 3, none⟩,
      ⟨some 28, (.binOp .eql 3 (.tmp 27) (.const (.int .i64 (-1))) 3), 4, none⟩,
      ⟨some 29, (.move (.tmp 28)), 4, none⟩,
      ⟨some 30, (.move (.tmp 1)), 23, some (29, false)⟩,
      ⟨some 31, (.move (.tmp 8)), 3, some (29, false)⟩,
      ⟨some 32, (.indexAddr 23 (.tmp 30) (.tmp 31)), 0, some (29, false)⟩,
      ⟨some 33, (.load 3 (.tmp 32)), 3, some (29, false)⟩,
      ⟨some 34, (.fieldAddr 46 (.tmp 2) 0), 0, some (29, false)⟩,
      ⟨some 35, (.load 3 (.tmp 34)), 3, some (29, false)⟩,
      ⟨some 36, (.binOp .eql 3 (.tmp 33) (.tmp 35) 3), 4, some (29, false)⟩,
      ⟨some 37, (.pick (.tmp 29) (.const (.bool true)) (.tmp 36)), 4, none⟩,
      ⟨some 38, (.move (.tmp 37)), 4, none⟩,
      ⟨some 39, (.move (.tmp 5)), 111, some (38, true)⟩,
      ⟨some 40, (.move (.tmp 1)), 23, some (38, true)⟩,
      ⟨some 41, (.move (.tmp 8)), 3, some (38, true)⟩,
      ⟨some 42, (.binOp .sub 3 (.tmp 41) (.const (.int .i64 1)) 3), 3, some (38, true)⟩,
      ⟨some 43, (.call ⟨(.value (.func 176)), #[(.tmp 40), (.tmp 42)], #[23, 3]⟩), 3, some (38, true)⟩,
      ⟨some 44, (.call ⟨(.value (.tmp 39)), #[(.tmp 43)], #[3]⟩), 4, some (38, true)⟩,
      ⟨some 45, (.pick (.tmp 38) (.tmp 44) (.const (.bool false))), 4, none⟩,
      ⟨some 46, (.move (.tmp 45)), 4, none⟩,
      ⟨some 47, (.move (.tmp 6)), 111, some (46, true)⟩,
      ⟨some 48, (.move (.tmp 1)), 23, some (46, true)⟩,
      ⟨some 49, (.move (.tmp 8)), 3, some (46, true)⟩,
      ⟨some 50, (.load 46 (.tmp 2)), 46, some (46, true)⟩,
      ⟨some 51, (.call ⟨(.value (.func 175)), #[(.tmp 50)], #[46]⟩), 3, some (46, true)⟩,
      ⟨some 52, (.binOp .add 3 (.tmp 49) (.tmp 51) 3), 3, some (46, true)⟩,
      ⟨some 53, (.call ⟨(.value (.func 176)), #[(.tmp 48), (.tmp 52)], #[23, 3]⟩), 3, some (46, true)⟩,
      ⟨some 54, (.call ⟨(.value (.tmp 47)), #[(.tmp 53)], #[3]⟩), 4, some (46, true)⟩,
      ⟨some 55, (.pick (.tmp 46) (.tmp 54) (.const (.bool false))), 4, none⟩] [(4, 5), (4, 8), (5, 8), (6, 8), (7, 8), (4, 9), (5, 9), (6, 9), (7, 9), (13, 14), (13, 15), (14, 15), (13, 16), (14, 16), (13, 17), (21, 22), (21, 23), (22, 23), (21, 24), (22, 24), (23, 24), (21, 25), (22, 25), (23, 25), (21, 26), (22, 26), (21, 27)])
    (.cond (.tmp 55)
    (.reg [] [⟨some 56, (.move (.tmp 7)), 23, none⟩,
      ⟨some 57, (.move (.tmp 8)), 3, none⟩,
      ⟨some 58, (.buildSlice 23 1 #[(0, (.tmp 57))]), 23, none⟩,
      ⟨some 59, (.call ⟨(.builtin .append), #[(.tmp 56), (.tmp 58)], #[23, 23]⟩), 23, none⟩,
      ⟨some 7, (.assign (.tmp 59)), 23, none⟩])
    .skip))))
    (.reg [] [⟨some 60, (.binOp .add 3 (.tmp 23) (.const (.int .i64 1)) 3), 3, none⟩,
      ⟨some 23, (.move (.tmp 60)), 3, none⟩])))))))
    (.seq (.reg [] [⟨some 61, (.move (.tmp 7)), 23, none⟩,
      ⟨some 4, (.assign (.tmp 61)), 23, none⟩])
    .ret)))))
theorem C147 {args : List AV} {r : AV} (hn : args.length ≤ 62) (h : vc Tryz.prog T [] A147 (Fin T [(.tmp 4)] r) ⟨envOf 0 args, []⟩) : CallP Tryz.prog 147 args r :=
  callP_of tok mixed Tryz.func147 (by kernel_rfl) (by kernel_rfl) (by kernel_rfl : Tryz.f147.ntmps = 62) (by kernel_rfl : Tryz.f147.body.bind (strip 62 (fun _ => [])) = some A147) hn h
def A149 : ACode :=
  (.seq (.reg [] [⟨some 3, (.box 46 (.tmp 0)), 0, none⟩,
      ⟨some 6, (.assign (.const (.slice none 0 0))), 23, none⟩])
    (.seq (.draw [] [⟨some 7, (.move (.tmp 1)), 23, none⟩,
      ⟨some 8, (.move (.tmp 2)), 3, none⟩,
      ⟨some 9, (.slice 23 (.tmp 7) none (some (.tmp 8)) none), 23, none⟩,
      ⟨some 10, (.fieldAddr 46 (.tmp 3) 1), 0, none⟩,
      ⟨some 11, (.load 23 (.tmp 10)), 23, none⟩,
      ⟨some 12, (.move (.tmp 1)), 23, none⟩,
      ⟨some 13, (.move (.tmp 2)), 3, none⟩,
      ⟨some 14, (.load 46 (.tmp 3)), 46, none⟩,
      ⟨some 15, (.call ⟨(.value (.func 175)), #[(.tmp 14)], #[46]⟩), 3, none⟩,
      ⟨some 16, (.binOp .add 3 (.tmp 13) (.tmp 15) 3), 3, none⟩,
      ⟨some 17, (.slice 23 (.tmp 12) (some (.tmp 16)) none none), 23, none⟩,
      ⟨some 18, (.buildSlice 27 3 #[(0, (.tmp 9)), (1, (.tmp 11)), (2, (.tmp 17))]), 27, none⟩,
      ⟨some 19, (.call ⟨(.value (.func 177)), #[(.tmp 18)], #[27]⟩), 23, none⟩,
      ⟨some 6, (.assign (.tmp 19)), 23, none⟩] [(0, 1), (0, 3), (1, 3), (2, 3), (0, 4), (1, 4), (2, 4), (0, 5), (1, 5), (2, 5), (3, 5), (4, 5), (0, 6), (1, 6), (2, 6), (3, 6), (4, 6), (5, 6), (0, 7), (1, 7), (2, 7), (3, 7), (4, 7), (5, 7), (6, 7), (0, 8), (1, 8), (2, 8), (3, 8), (4, 8), (5, 8), (6, 8), (0, 9), (1, 9), (2, 9), (3, 9), (4, 9), (5, 9), (0, 10), (1, 10), (2, 10), (3, 10), (4, 10)])
    .ret))
theorem C149 {args : List AV} {r : AV} (hn : args.length ≤ 20) (h : vc Tryz.prog T [] A149 (Fin T [(.tmp 6)] r) ⟨envOf 0 args, []⟩) : CallP Tryz.prog 149 args r :=
  callP_of tok mixed Tryz.func149 (by kernel_rfl) (by kernel_rfl) (by kernel_rfl : Tryz.f149.ntmps = 20) (by kernel_rfl : Tryz.f149.body.bind (strip 20 (fun _ => [])) = some A149) hn h
def A102 : ACode :=
  (.seq (.reg [] [⟨some 3, (.box 46 (.tmp 0)), 0, none⟩,
      ⟨some 6, (.assign (.const (.slice none 0 0))), 23, none⟩,
      ⟨some 7, (.assign (.const (.int .i64 0))), 28, none⟩])
    (.seq (.seq (.reg [] [⟨some 9, (.load 46 (.tmp 3)), 46, none⟩,
      ⟨some 10, (.move (.tmp 1)), 23, none⟩,
      ⟨some 11, (.call ⟨(.value (.func 146)), #[(.tmp 9), (.tmp 10)], #[46, 23]⟩), 28, none⟩,
      ⟨some 8, (.assign (.tmp 11)), 28, none⟩])
    (.seq (.reg [] [⟨some 12, (.move (.tmp 8)), 28, none⟩,
      ⟨some 13, (.binOp .neq 28 (.tmp 12) (.const (.int .i64 0)) 28), 4, none⟩])
    (.cond (.tmp 13)
    (.seq (.reg [] [⟨some 14, (.move (.tmp 8)), 28, none⟩,
      ⟨some 6, (.assign (.const (.slice none 0 0))), 23, none⟩,
      ⟨some 7, (.assign (.tmp 14)), 28, none⟩])
    .ret)
    .skip)))
    (.seq (.seq (.reg [] [⟨some 15, (.load 46 (.tmp 3)), 46, none⟩,
      ⟨some 16, (.move (.tmp 1)), 23, none⟩,
      ⟨some 17, (.call ⟨(.value (.func 147)), #[(.tmp 15), (.tmp 16)], #[46, 23]⟩), 23, none⟩,
      ⟨some 18, (.move (.tmp 2)), 3, none⟩,
      ⟨some 19, (.call ⟨(.value (.func 93)), #[(.tmp 17), (.tmp 18)], #[23, 3]⟩), 4, none⟩,
      ⟨some 20, (.unOp .not 4 (.tmp 19)), 4, none⟩])
    (.cond (.tmp 20)
    (.seq (.reg [] [⟨some 6, (.assign (.const (.slice none 0 0))), 23, none⟩,
      ⟨some 7, (.assign (.const (.int .i64 6))), 28, none⟩])
    .ret)
    .skip))
    (.seq (.reg [] [⟨some 21, (.load 46 (.tmp 3)), 46, none⟩,
      ⟨some 22, (.move (.tmp 1)), 23, none⟩,
      ⟨some 23, (.move (.tmp 2)), 3, none⟩,
      ⟨some 24, (.call ⟨(.value (.func 149)), #[(.tmp 21), (.tmp 22), (.tmp 23)], #[46, 23, 3]⟩), 23, none⟩,
      ⟨some 25, (.call ⟨(.value (.func 148)), #[(.tmp 24)], #[23]⟩), 38, none⟩,
      ⟨some 26, (.extract (.tmp 25) 0), 23, none⟩,
      ⟨some 27, (.extract (.tmp 25) 1), 28, none⟩,
      ⟨some 6, (.assign (.tmp 26)), 23, none⟩,
      ⟨some 7, (.assign (.tmp 27)), 28, none⟩])
    .ret))))
theorem C102 {args : List AV} {r : AV} (hn : args.length ≤ 28) (h : vc Tryz.prog T [] A102 (Fin T [(.tmp 6), (.tmp 7)] r) ⟨envOf 0 args, []⟩) : CallP Tryz.prog 102 args r :=
  callP_of tok mixed Tryz.func102 (by kernel_rfl) (by kernel_rfl) (by kernel_rfl : Tryz.f102.ntmps = 28) (by kernel_rfl : Tryz.f102.body.bind (strip 28 (fun _ => [])) = some A102) hn h
def A101 : ACode :=
  (.seq (.reg [] [⟨some 2, (.box 46 (.tmp 0)), 0, none⟩,
      ⟨some 4, (.assign (.const (.slice none 0 0))), 23, none⟩,
      ⟨some 5, (.assign (.const (.int .i64 0))), 28, none⟩])
    (.seq (.seq (.reg [] [⟨some 7, (.load 46 (.tmp 2)), 46, none⟩,
      ⟨some 8, (.move (.tmp 1)), 23, none⟩,
      ⟨some 9, (.call ⟨(.value (.func 146)), #[(.tmp 7), (.tmp 8)], #[46, 23]⟩), 28, none⟩,
      ⟨some 6, (.assign (.tmp 9)), 28, none⟩])
    (.seq (.reg [] [⟨some 10, (.move (.tmp 6)), 28, none⟩,
      ⟨some 11, (.binOp .neq 28 (.tmp 10) (.const (.int .i64 0)) 28), 4, none⟩])
    (.cond (.tmp 11)
    (.seq (.reg [] [⟨some 12, (.move (.tmp 6)), 28, none⟩,
      ⟨some 4, (.assign (.const (.slice none 0 0))), 23, none⟩,
      ⟨some 5, (.assign (.tmp 12)), 28, none⟩])
    .ret)
    .skip)))
    (.seq (.reg [] [⟨some 13, (.load 46 (.tmp 2)), 46, none⟩,
      ⟨some 14, (.move (.tmp 1)), 23, none⟩,
      ⟨some 15, (.call ⟨(.value (.func 147)), #[(.tmp 13), (.tmp 14)], #[46, 23]⟩), 23, none⟩,
      ⟨some 4, (.assign (.tmp 15)), 23, none⟩,
      ⟨some 5, (.assign (.const (.int .i64 0))), 28, none⟩])
    .ret)))
theorem C101 {args : List AV} {r : AV} (hn : args.length ≤ 16) (h : vc Tryz.prog T [] A101 (Fin T [(.tmp 4), (.tmp 5)] r) ⟨envOf 0 args, []⟩) : CallP Tryz.prog 101 args r :=
  callP_of tok mixed Tryz.func101 (by kernel_rfl) (by kernel_rfl) (by kernel_rfl : Tryz.f101.ntmps = 16) (by kernel_rfl : Tryz.f101.body.bind (strip 16 (fun _ => [])) = some A101) hn h
end Go.Proofs.YtkhddecnllcaiaaGreat
end

section
/- Contracts: the checks of package rule. -/
namespace Go.Proofs.YtkhddecnllcaiaaGreat
open Go.Abs Go
set_option maxRecDepth 20000
set_option maxHeartbeats 2000000
attribute [local irreducible] PreK CondK CallK CallG CallX LoopK

theorem equal_c (a b : List Int) (ha : a.length ≤ big) : CallP Tryz.prog 49 [ints a, ints b] (bv (decide (a = b))) := by
  refine C49 (by simp) ?_
  generalize hR : decide (a = b) = R
  simp [A49]
  refine CondK.intro (fun h => ?_) (fun h => ?_)
  · simp at h
    have : a ≠ b := fun e => h (by rw [e])
    simp [this] at hR
    simp [hR]
  · simp at h
    simp
    refine LoopK.by (fun i : Nat => ⟨[(13, iv i), (12, iv a.length), (0, ints a), (1, ints b)], []⟩) (fun i => a.length - i) (fun i => i ≤ a.length ∧ decide (a.drop i = b.drop i) = R) 0 (by simpa using hR) (by simp) ?_
    intro i Q' ⟨hi, hc⟩ hq he hr
    simp
    refine CondK.intro (fun h2 => ?_) (fun h2 => ?_)
    · simp at h2
      rw [drop_cons a i h2, drop_cons b i (by omega)] at hc
      simp [h2, show i < b.length by omega]
      refine CondK.intro (fun h3 => ?_) (fun h3 => ?_)
      · simp at h3
        simp [h3] at hc
        simp
        apply hr
        simp [hc]
      · simp at h3
        simp [h3] at hc
        simp
        refine PreK.intro (by simp only [big] at ha; omega) fun _ => ?_
        simp
        exact hq (i + 1) _ ⟨by omega, by simpa using hc⟩ (by omega) (by simp)
    · simp at h2
      rw [List.drop_eq_nil_of_le (by omega), List.drop_eq_nil_of_le (by omega)] at hc
      simp at hc
      simp
      apply he
      simp [hc]

def wordErr (w : List Int) : Int := if 8 < w.length then 3 else if w.any (fun x => !isSound x) then 1 else 0
theorem validateWord_c (w : List Int) (hw : w.length ≤ big) : CallP Tryz.prog 94 [ints w] (iv (wordErr w)) := by
  refine C94 (by simp) ?_
  generalize hR : wordErr w = R
  unfold wordErr at hR
  simp [A94]
  refine CondK.intro (fun h => ?_) (fun h => ?_)
  · simp at h
    rw [if_pos (by omega)] at hR
    simp [hR]
  · simp at h
    rw [if_neg (by omega)] at hR
    simp
    refine CallX.pure (by simpa using areSounds_c w hw) (by simp) (by simp) ?_
    simp
    refine CondK.intro (fun h2 => ?_) (fun h2 => ?_)
    · have h3 : w.any (fun x => !isSound x) = true := by simpa using h2
      rw [if_pos h3] at hR
      simp [hR]
    · have h3 : ¬ w.any (fun x => !isSound x) = true := by simpa using h2
      rw [if_neg h3] at hR
      simp [hR]

def setF : Option Int → List Int → Bool
  | _, [] => true
  | p, x :: r => isNeighbor x && (match p with | some y => decide (y < x) | none => true) && setF (some x) r
def lessO (p : Option Int) (x : Int) : Bool := match p with | some y => decide (y < x) | none => true
theorem setF_cons (p : Option Int) (x : Int) (r : List Int) : setF p (x :: r) = (isNeighbor x && lessO p x && setF (some x) r) := by cases p <;> rfl
def prevOf (l : List Int) (i : Nat) : Option Int := if i = 0 then none else some (el l (i - 1))
theorem isSet_c (l : List Int) (hl : l.length ≤ big) : CallP Tryz.prog 145 [ints l] (bv (setF none l)) := by
  refine C145 (by simp) ?_
  generalize hR : setF none l = R
  simp [A145]
  refine LoopK.by (fun i : Nat => ⟨[(7, iv i), (6, iv l.length), (5, ints l), (0, ints l)], []⟩) (fun i => l.length - i) (fun i => i ≤ l.length ∧ setF (prevOf l i) (l.drop i) = R) 0 (by simpa [prevOf] using hR) (by simp) ?_
  intro i Q' ⟨hi, hc⟩ hq he hr
  simp
  refine CondK.intro (fun h => ?_) (fun h => ?_)
  · simp at h
    rw [drop_cons l i h, setF_cons] at hc
    simp [h]
    refine CallX.pure (by simpa using isNeighbor_c (el l i)) (by simp) (by simp) ?_
    simp
    have e1 : ((i : Int) - 1).toNat = i - 1 := by omega
    have h1 : i - 1 < l.length := by omega
    refine PreK.intro (fun a b => ⟨by simp only [big] at hl; omega, a, b⟩) fun _ => ?_
    simp [e1, h1]
    refine PreK.intro (fun a b => ⟨by omega, a, b⟩) fun _ => ?_
    simp [e1, h1]
    have hprev : lessO (prevOf l i) (el l i) = (!(decide (0 < i) && decide (el l i ≤ el l (i - 1)))) := by
      unfold prevOf
      by_cases h0 : i = 0
      · simp [h0, lessO]
      · simp [h0, lessO, show 0 < i by omega]
        by_cases h6 : el l (i - 1) < el l i
        · simp [h6]
        · simp [h6]; omega
    rw [hprev] at hc
    refine PreK.intro (fun a => ⟨fun b => ⟨a, b⟩, a⟩) fun _ => ?_
    simp
    refine CondK.intro (fun h4 => ?_) (fun h4 => ?_)
    · have : (isNeighbor (el l i) && !(decide (0 < i) && decide (el l i ≤ el l (i - 1)))) = false := by
        revert h4; cases isNeighbor (el l i) <;> cases decide (0 < i) <;> cases decide (el l i ≤ el l (i - 1)) <;> simp
      rw [this] at hc
      simp at hc
      simp
      apply hr
      simp [hc]
    · have : (isNeighbor (el l i) && !(decide (0 < i) && decide (el l i ≤ el l (i - 1)))) = true := by
        revert h4; cases isNeighbor (el l i) <;> cases decide (0 < i) <;> cases decide (el l i ≤ el l (i - 1)) <;> simp
      rw [this] at hc
      simp at hc
      simp
      refine PreK.intro (by simp only [big] at hl; omega) fun _ => ?_
      simp
      exact hq (i + 1) _ ⟨by omega, by simpa [prevOf] using hc⟩ (by omega) (by simp)
  · simp at h
    rw [List.drop_eq_nil_of_le (by omega)] at hc
    simp [setF] at hc
    simp
    apply he
    simp [hc]
end Go.Proofs.YtkhddecnllcaiaaGreat
end

section
/- Contracts: rule.Validate. -/
namespace Go.Proofs.YtkhddecnllcaiaaGreat
open Go.Abs Go
set_option maxRecDepth 20000
set_option maxHeartbeats 2000000
attribute [local irreducible] PreK CondK CallK CallG CallX LoopK

def ruleErr (r : Rule) : Int :=
  if !isNeighbor r.frm then 1 else if 2 < r.to.length then 3 else if r.to.any (fun x => !isSound x) || !setF none r.left || !setF none r.right then 1
  else if (decide (r.frm = -1) && decide (r.to.length = 0)) || decide (r.to = [r.frm]) then 6 else 0
theorem validate_c (r : Rule) (h1 : r.to.length ≤ big) (h2 : r.left.length ≤ big) (h3 : r.right.length ≤ big) : CallP Tryz.prog 100 [ruleV r] (iv (ruleErr r)) := by
  refine C100 (by simp) ?_
  generalize hR : ruleErr r = R
  unfold ruleErr at hR
  simp [A100]
  refine CallX.pure (by simpa using isNeighbor_c r.frm) (by simp) (by simp) ?_
  simp
  refine CondK.intro (fun h => ?_) (fun h => ?_)
  · simp at h
    simp [h] at hR
    simp [hR]
  · simp at h
    simp only [h, Bool.not_true, Bool.false_eq_true, if_false] at hR
    simp
    refine CondK.intro (fun h4 => ?_) (fun h4 => ?_)
    · simp at h4
      rw [if_pos (by omega)] at hR
      simp [hR]
    · simp at h4
      rw [if_neg (by omega)] at hR
      simp
      refine CallX.pure (by simpa using areSounds_c r.to h1) (by simp) (by simp) ?_
      simp
      refine CallG.intro (fun _ => by simpa using isSet_c r.left h2) (by simp) (by simp) ?_
      simp
      refine CallG.intro (fun _ => by simpa using isSet_c r.right h3) (by simp) (by simp) ?_
      simp
      refine CondK.intro (fun h5 => ?_) (fun h5 => ?_)
      · rw [if_pos h5] at hR
        simp [hR]
      · rw [if_neg (by rw [h5]; simp)] at hR
        simp
        refine CondK.intro (fun h6 => ?_) (fun h6 => ?_)
        · simp at h6
          simp [h6] at hR
          simp [h6, hR]
          refine CondK.intro (fun _ => ?_) (fun h => by simp at h)
          simp [hR]
        · have h7 : (decide (r.frm = -1) && decide (r.to.length = 0)) = false := by simpa using h6
          rw [h7, Bool.false_or] at hR
          simp
          refine CallX.pure (by simpa using equal_c r.to [r.frm] h1) (by simp) (by simp) ?_
          simp
          refine CondK.intro (fun h8 => ?_) (fun h8 => ?_)
          · simp at h8
            simp [h8] at hR
            simp [hR]
          · simp at h8
            simp [h8] at hR
            simp [hR]
end Go.Proofs.YtkhddecnllcaiaaGreat
end

section
/- Contracts: sides and places of rules. -/
namespace Go.Proofs.YtkhddecnllcaiaaGreat
open Go.Abs Go
set_option maxRecDepth 20000
set_option maxHeartbeats 2000000
attribute [local irreducible] PreK CondK CallK CallG CallX LoopK

/-- Which neighbors may be by a set: 7 answers. -/
def mayS (set : List Int) (n : Int) : Bool := decide (set = []) || set.any fun x => decide (n = x)
def sideL (set : List Int) : List Bool := [mayS set (-1), mayS set 0, mayS set 1, mayS set 2, mayS set 3, mayS set 4, mayS set 5]
@[simp] def sideV (s : List Bool) : AV := .agg (s.map bv)
theorem of_c (set : List Int) (hs : set.length ≤ big) : CallP Tryz.prog 173 [ints set] (sideV (sideL set)) := by
  refine C173 (by simp) ?_
  simp [A173]
  refine LoopK.by (fun i : Nat => ⟨[(5, iv i), (0, ints set), (3, .pt 3 1 0 0), (2, .pt 2 1 0 0)], [(3, some ⟨7, [.agg (((sideL set).take i ++ List.replicate (7 - i) false).map bv)], 1, true⟩), (2, some ⟨7, [.agg ((List.replicate 7 false).map bv)], 1, true⟩)]⟩) (fun i => 7 - i) (fun i => i ≤ 7) 0 (by simp) (by simp [List.replicate, sideL]) ?_
  intro i Q' hi hq he hr
  have hcall : ∀ n : Int, CallP Tryz.prog 93 [ints set, iv n] (bv (set.any fun x => decide (n = x))) := fun n => contains_c set n hs
  have hm : ∀ n, (bif decide (set = []) then true else set.any fun x => decide (n = x)) = mayS set n := fun n => by
    unfold mayS; cases decide (set = []) <;> rfl
  by_cases h7 : i = 7
  · subst h7
    simp [sideL, List.replicate]
    refine CondK.intro (fun h => by simp at h) (fun _ => ?_)
    simp
    apply he
    simp [sideL]
  · have hcase : i = 0 ∨ i = 1 ∨ i = 2 ∨ i = 3 ∨ i = 4 ∨ i = 5 ∨ i = 6 := by omega
    rcases hcase with rfl | rfl | rfl | rfl | rfl | rfl | rfl
    · simp [sideL, List.replicate]
      refine CondK.intro (fun _ => ?_) (fun h => by simp at h)
      simp
      refine CallG.intro (fun _ => by simpa using hcall (-1)) (by simp) (by simp) ?_
      simp
      exact hq 1 _ (by omega) (by omega) (by simp [sideL, mayS, List.replicate])
    · simp [sideL, List.replicate]
      refine CondK.intro (fun _ => ?_) (fun h => by simp at h)
      simp
      refine CallG.intro (fun _ => by simpa using hcall (0)) (by simp) (by simp) ?_
      simp
      exact hq 2 _ (by omega) (by omega) (by simp [sideL, mayS, List.replicate])
    · simp [sideL, List.replicate]
      refine CondK.intro (fun _ => ?_) (fun h => by simp at h)
      simp
      refine CallG.intro (fun _ => by simpa using hcall (1)) (by simp) (by simp) ?_
      simp
      exact hq 3 _ (by omega) (by omega) (by simp [sideL, mayS, List.replicate])
    · simp [sideL, List.replicate]
      refine CondK.intro (fun _ => ?_) (fun h => by simp at h)
      simp
      refine CallG.intro (fun _ => by simpa using hcall (2)) (by simp) (by simp) ?_
      simp
      exact hq 4 _ (by omega) (by omega) (by simp [sideL, mayS, List.replicate])
    · simp [sideL, List.replicate]
      refine CondK.intro (fun _ => ?_) (fun h => by simp at h)
      simp
      refine CallG.intro (fun _ => by simpa using hcall (3)) (by simp) (by simp) ?_
      simp
      exact hq 5 _ (by omega) (by omega) (by simp [sideL, mayS, List.replicate])
    · simp [sideL, List.replicate]
      refine CondK.intro (fun _ => ?_) (fun h => by simp at h)
      simp
      refine CallG.intro (fun _ => by simpa using hcall (4)) (by simp) (by simp) ?_
      simp
      exact hq 6 _ (by omega) (by omega) (by simp [sideL, mayS, List.replicate])
    · simp [sideL, List.replicate]
      refine CondK.intro (fun _ => ?_) (fun h => by simp at h)
      simp
      refine CallG.intro (fun _ => by simpa using hcall (5)) (by simp) (by simp) ?_
      simp
      exact hq 7 _ (by omega) (by omega) (by simp [sideL, mayS, List.replicate])
end Go.Proofs.YtkhddecnllcaiaaGreat
end

section
/- Contracts: sides and places of rules, part 2. -/
namespace Go.Proofs.YtkhddecnllcaiaaGreat
open Go.Abs Go
set_option maxRecDepth 20000
set_option maxHeartbeats 2000000
attribute [local irreducible] PreK CondK CallK CallG CallX LoopK

end Go.Proofs.YtkhddecnllcaiaaGreat
end

section
/- Functions of the cut as the value layer reads them. (written by gen.py) -/
set_option maxRecDepth 20000
namespace Go.Proofs.YtkhddecnllcaiaaGreat
open Go.Abs Go

def A174 : ACode :=
  (.seq (.reg [] [⟨some 2, (.box 183 (.tmp 0)), 0, none⟩,
      ⟨some 4, (.assign (.const (.bool false))), 4, none⟩])
    (.seq (.reg [] [⟨some 5, (.move (.tmp 1)), 3, none⟩,
      ⟨some 6, (.binOp .add 3 (.tmp 5) (.const (.int .i64 1)) 3), 3, none⟩,
      ⟨some 7, (.indexAddr 183 (.tmp 2) (.tmp 6)), 0, none⟩,
      ⟨some 8, (.load 4 (.tmp 7)), 4, none⟩,
      ⟨some 4, (.assign (.tmp 8)), 4, none⟩])
    .ret))
theorem C174 {args : List AV} {r : AV} (hn : args.length ≤ 9) (h : vc Tryz.prog T [] A174 (Fin T [(.tmp 4)] r) ⟨envOf 0 args, []⟩) : CallP Tryz.prog 174 args r :=
  callP_of tok mixed Tryz.func174 (by kernel_rfl) (by kernel_rfl) (by kernel_rfl : Tryz.f174.ntmps = 9) (by kernel_rfl : Tryz.f174.body.bind (strip 9 (fun _ => [])) = some A174) hn h

end Go.Proofs.YtkhddecnllcaiaaGreat
end

section
/- Contracts: sides and places of rules, part 3. -/
namespace Go.Proofs.YtkhddecnllcaiaaGreat
open Go.Abs Go
set_option maxRecDepth 20000
set_option maxHeartbeats 2000000
attribute [local irreducible] PreK CondK CallK CallG CallX LoopK

theorem may_c (s : List Bool) (hs : s.length = 7) (n : Int) (h0 : -1 ≤ n) (h1 : n ≤ 5) : CallP Tryz.prog 174 [sideV s, iv n] (bv (s.getD (n + 1).toNat false)) := by
  refine C174 (by simp) ?_
  simp [A174]
  refine PreK.intro hs fun _ => ?_
  simp
  refine PreK.intro (by omega) fun _ => ?_
  simp
  refine PreK.intro (by omega) fun _ => ?_
  simp [hs]
  refine PreK.intro (by omega) fun _ => ?_
  have hlt : (n + 1).toNat < s.length := by omega
  simp [hlt]
end Go.Proofs.YtkhddecnllcaiaaGreat
end

section
/- Contracts: applying rules. -/
namespace Go.Proofs.YtkhddecnllcaiaaGreat
open Go.Abs Go
set_option maxRecDepth 20000
set_option maxHeartbeats 2000000
attribute [local irreducible] PreK CondK CallK CallG CallX LoopK

def putW (r : Rule) (w : List Int) (i : Nat) : List Int := w.take i ++ r.to ++ w.drop (i + (long r).toNat)
theorem put_c (r : Rule) (w : List Int) (i : Nat) (hi : i + (long r).toNat ≤ w.length) (hw : w.length ≤ 400) (ht : r.to.length ≤ 400) : CallP Tryz.prog 149 [ruleV r, ints w, iv i] (ints (putW r w i)) := by
  refine C149 (by simp) ?_
  have hl : long r = 0 ∨ long r = 1 := by unfold long; split <;> simp
  simp [A149, show i ≤ w.length by omega]
  refine CallK.intro (by simpa using long_c r) (by simp) (by simp) ?_
  simp
  have e1 : ((i : Int) + long r).toNat = i + (long r).toNat := by omega
  refine PreK.intro (by omega) fun _ => ?_
  simp
  refine PreK.intro (by omega) fun _ => ?_
  simp [e1]
  refine CallK.intro (by simpa [List.map_take, List.map_drop] using (concat_o [w.take i, r.to, w.drop (i + (long r).toNat)] (by simp) (by simp; omega)).toP) (by simp) (by simp) ?_
  simp [putW]

def shortErr (w : List Int) : Int := if 8 < w.length then 3 else 0
theorem short_c (w : List Int) : CallP Tryz.prog 148 [ints w] (.tup [ints (if 8 < w.length then [] else w), iv (shortErr w)]) := by
  refine C148 (by simp) ?_
  simp [A148]
  refine CondK.intro (fun h => ?_) (fun h => ?_)
  · simp at h
    have : 8 < w.length := by omega
    simp [shortErr, this]
  · simp at h
    have : ¬ 8 < w.length := by omega
    simp [shortErr, this]
end Go.Proofs.YtkhddecnllcaiaaGreat
end

section
/- Contracts: a rule and a word. -/
namespace Go.Proofs.YtkhddecnllcaiaaGreat
open Go.Abs Go
set_option maxRecDepth 20000
set_option maxHeartbeats 2000000
attribute [local irreducible] PreK CondK CallK CallG CallX LoopK

def wordedErr (r : Rule) (w : List Int) : Int := if ruleErr r ≠ 0 then ruleErr r else wordErr w
def Rule.small (r : Rule) : Prop := r.to.length ≤ 1000 ∧ r.left.length ≤ 1000 ∧ r.right.length ≤ 1000
theorem validate_s {r : Rule} (h : r.small) : CallP Tryz.prog 100 [ruleV r] (iv (ruleErr r)) :=
  validate_c r (by have := h.1; simp only [big]; omega) (by have := h.2.1; simp only [big]; omega) (by have := h.2.2; simp only [big]; omega)
theorem worded_c (r : Rule) (w : List Int) (h : r.small) (hw : w.length ≤ 1000) : CallP Tryz.prog 146 [ruleV r, ints w] (iv (wordedErr r w)) := by
  refine C146 (by simp) ?_
  generalize hR : wordedErr r w = R
  unfold wordedErr at hR
  simp [A146]
  refine CallX.pure (by simpa using validate_s h) (by simp) (by simp) ?_
  simp
  refine CondK.intro (fun h1 => ?_) (fun h1 => ?_)
  · simp at h1
    simp [h1] at hR
    simp [hR]
  · simp at h1
    simp [h1] at hR
    simp
    refine CallX.pure (by simpa using validateWord_c w (by simp only [big]; omega)) (by simp) (by simp) ?_
    simp [hR]
end Go.Proofs.YtkhddecnllcaiaaGreat
end

section
/- Contracts: the places of a rule. -/
namespace Go.Proofs.YtkhddecnllcaiaaGreat
open Go.Abs Go

theorem sideL_get (set : List Int) (n : Int) (h0 : -1 ≤ n) (h1 : n ≤ 5) : (sideL set).getD (n + 1).toNat false = mayS set n := by
  have : n = -1 ∨ n = 0 ∨ n = 1 ∨ n = 2 ∨ n = 3 ∨ n = 4 ∨ n = 5 := by omega
  rcases this with rfl | rfl | rfl | rfl | rfl | rfl | rfl <;> rfl
theorem mayS_c (set : List Int) (n : Int) (h0 : -1 ≤ n) (h1 : n ≤ 5) : CallP Tryz.prog 174 [sideV (sideL set), iv n] (bv (mayS set n)) := by
  rw [← sideL_get set n h0 h1]
  exact may_c (sideL set) rfl n h0 h1
/-- Whether a rule may be applied at a place. -/
def isAt (r : Rule) (w : List Int) (i : Nat) : Bool :=
  (decide (r.frm = -1) || decide (el w i = r.frm)) && mayS r.left (atW w ((i : Int) - 1)) && mayS r.right (atW w ((i : Int) + long r))
theorem atW_range (w : List Int) (hw : w.all isSound = true) (i : Int) : -1 ≤ atW w i ∧ atW w i ≤ 5 := by
  unfold atW
  split
  · rename_i h
    have hlt : i.toNat < w.length := by omega
    have := List.all_eq_true.1 hw (el w i.toNat) (by rw [el_eq w _ hlt]; exact List.getElem_mem hlt)
    simp [isSound] at this
    omega
  · omega
end Go.Proofs.YtkhddecnllcaiaaGreat
end

section
/- Contracts: the places of a rule. -/
set_option maxRecDepth 20000
namespace Go.Proofs.YtkhddecnllcaiaaGreat
open Go.Abs Go
set_option maxRecDepth 20000
set_option maxHeartbeats 2000000
attribute [local irreducible] PreK CondK CallK CallG CallX LoopK

def placesF (r : Rule) (w : List Int) : Nat → Nat → List Int
  | _, 0 => []
  | i, n + 1 => if isAt r w i then (i : Int) :: placesF r w (i + 1) n else placesF r w (i + 1) n
set_option maxHeartbeats 1000000 in
theorem places_c (r : Rule) (w : List Int) (h : r.small) (hw : w.length ≤ 1000) (hs : w.all isSound = true) :
    CallP Tryz.prog 147 [ruleV r, ints w] (ints (placesF r w 0 (w.length + 1 - (long r).toNat))) := by
  refine C147 (by simp) ?_
  generalize hR : placesF r w 0 (w.length + 1 - (long r).toNat) = R
  have hl : long r = 0 ∨ long r = 1 := by unfold long; split <;> simp
  have hb : ∀ {l : List Int}, l.length ≤ 1000 → l.length ≤ big := fun h => by simp only [big]; omega
  simp [A147]
  refine CallK.intro (by simpa using of_c r.left (hb h.2.1)) (by simp) (by simp) ?_
  simp
  refine CallK.intro (by simpa using of_c r.right (hb h.2.2)) (by simp) (by simp) ?_
  simp
  refine PreK.intro (by omega) fun _ => ?_
  simp
  refine CallX.pure (by simpa using long_c r) (by simp) (by simp) ?_
  simp
  refine PreK.intro (by omega) fun _ => ?_
  simp
  refine LoopK.by (ι := Nat × Nat × List Int) (fun i => ⟨[(23, iv i.1), (22, iv (w.length + 1 - long r)), (1, ints w), (5, .fn 174 [sideV (sideL r.left)] []), (6, .fn 174 [sideV (sideL r.right)] []), (2, .pt 2 1 0 0), (7, .sl 7 i.2.1 0 i.2.2.length)],
      [(7, some ⟨1, i.2.2.map iv, i.2.1, false⟩), (2, some ⟨4, [ruleV r], 1, true⟩)]⟩) (fun i => w.length + 1 - (long r).toNat - i.1)
    (fun i => i.1 ≤ w.length + 1 - (long r).toNat ∧ i.2.2.length ≤ i.1 ∧ i.2.2 ++ placesF r w i.1 (w.length + 1 - (long r).toNat - i.1) = R) (0, 1, []) (by simpa using hR) (by simp) ?_
  intro ⟨i, ver, acc⟩ Q' ⟨hi, ha, hc⟩ hq he hr
  dsimp only at hi ha hc
  simp
  refine CondK.intro (fun h7 => ?_) (fun h7 => ?_)
  · have h8 : i < w.length + 1 - (long r).toNat := by simp at h7; omega
    rw [show w.length + 1 - (long r).toNat - i = (w.length + 1 - (long r).toNat - (i + 1)) + 1 by omega, placesF] at hc
    simp
    have hlong : r.frm ≠ -1 → i < w.length := fun hne => by simp [long, hne] at h8; omega
    have hat1 := atW_range w hs ((i : Int) - 1)
    have hat2 := atW_range w hs ((i : Int) + long r)
    have hcl : CallP Tryz.prog 174 [sideV (sideL r.left), iv (atW w ((i : Int) - 1))] (bv (mayS r.left (atW w ((i : Int) - 1)))) := mayS_c _ _ hat1.1 hat1.2
    have hcr : CallP Tryz.prog 174 [sideV (sideL r.right), iv (atW w ((i : Int) + long r))] (bv (mayS r.right (atW w ((i : Int) + long r)))) := mayS_c _ _ hat2.1 hat2.2
    by_cases hlt : i < w.length
    · simp [hlt]
      refine PreK.intro (by omega) fun _ => ?_
      try simp 
      refine CallG.intro (fun _ => by simpa using at_c w (i - 1) hw) (by simp) (by simp) ?_
      try simp 
      refine CallG.intro (fun _ => by simpa using hcl) (by simp) (by simp) ?_
      try simp 
      refine CallG.intro (fun _ => by simpa using long_c r) (by simp) (by simp) ?_
      try simp 
      refine PreK.intro (by first | omega | (intros; first | omega | (refine ⟨by omega, ?_⟩; simp_all; done) | (simp_all; done) | (simp_all; omega))) fun _ => ?_
      try simp 
      refine CallG.intro (fun _ => by simpa using at_c w (i + long r) hw) (by simp) (by simp) ?_
      try simp 
      refine CallG.intro (fun _ => by simpa using hcr) (by simp) (by simp) ?_
      try simp 
      refine CondK.intro (fun h9 => ?_) (fun h9 => ?_)
      · have hat : isAt r w i = true := by simpa [isAt] using h9
        rw [if_pos hat] at hc
        try simp 
        refine PreK.intro (by omega) fun _ => ?_
        try simp 
        refine PreK.intro (by omega) fun _ => ?_
        try simp 
        exact hq (i + 1, ver + 1, acc ++ [(i : Int)]) _ ⟨by dsimp only; omega, by simp; omega, by simpa using hc⟩ (by dsimp only; omega) (by simp)
      · have hat : isAt r w i = false := by simpa only [isAt] using h9
        rw [if_neg (by simp [hat])] at hc
        try simp 
        refine PreK.intro (by omega) fun _ => ?_
        try simp 
        exact hq (i + 1, ver, acc) _ ⟨by dsimp only; omega, by dsimp only; omega, by simpa using hc⟩ (by dsimp only; omega) (by simp)
    · have hin : i = w.length := by omega
      subst hin
      have hf : r.frm = -1 := Decidable.byContradiction fun hne => absurd (hlong hne) hlt
      have hlc : CallP Tryz.prog 175 [.agg [iv (-1), ints r.to, ints r.left, ints r.right]] (iv (long r)) := by simpa [hf] using long_c r
      simp [hf]
      refine PreK.intro (by first | omega | (intros; first | omega | (refine ⟨by omega, ?_⟩; simp_all; done) | (simp_all; done) | (simp_all; omega))) fun _ => ?_
      try simp 
      refine CallG.intro (fun _ => by simpa using at_c w (w.length - 1) hw) (by simp) (by simp) ?_
      try simp 
      refine CallG.intro (fun _ => by simpa using hcl) (by simp) (by simp) ?_
      try simp 
      refine CallG.intro (fun _ => by simpa using hlc) (by simp) (by simp) ?_
      try simp 
      refine PreK.intro (by first | omega | (intros; first | omega | (refine ⟨by omega, ?_⟩; simp_all; done) | (simp_all; done) | (simp_all; omega))) fun _ => ?_
      try simp 
      refine CallG.intro (fun _ => by simpa using at_c w (w.length + long r) hw) (by simp) (by simp) ?_
      try simp 
      refine CallG.intro (fun _ => by simpa using hcr) (by simp) (by simp) ?_
      try simp 
      refine CondK.intro (fun h9 => ?_) (fun h9 => ?_)
      · have hat : isAt r w w.length = true := by simpa [isAt, hf] using h9
        rw [if_pos hat] at hc
        try simp 
        refine PreK.intro (by omega) fun _ => ?_
        try simp 
        refine PreK.intro (by omega) fun _ => ?_
        try simp 
        exact hq (w.length + 1, ver + 1, acc ++ [(w.length : Int)]) _ ⟨by dsimp only; omega, by simp; omega, by simpa using hc⟩ (by dsimp only; omega) (by simp [hf])
      · have hat : isAt r w w.length = false := by simpa only [isAt, hf, decide_true, Bool.true_or, Bool.true_and] using h9
        rw [if_neg (by simp [hat])] at hc
        try simp 
        refine PreK.intro (by omega) fun _ => ?_
        try simp 
        exact hq (w.length + 1, ver, acc) _ ⟨by dsimp only; omega, by dsimp only; omega, by simpa using hc⟩ (by dsimp only; omega) (by simp [hf])
  · have h8 : ¬ i < w.length + 1 - (long r).toNat := by simp at h7; omega
    have : w.length + 1 - (long r).toNat - i = 0 := by omega
    rw [this, placesF] at hc
    simp at hc
    apply he
    simp [hc]
end Go.Proofs.YtkhddecnllcaiaaGreat
end

section
/- Plain models of rules, steps and grounds, and what holds of them. -/
namespace Go.Proofs.YtkhddecnllcaiaaGreat
open Go.Abs Go

/-! ### steps -/
def placeB (r : Rule) (w : List Int) (i : Int) : Bool := decide (0 ≤ i) && (decide (i + long r ≤ w.length) && isAt r w i.toNat)
def applyM (r : Rule) (w : List Int) (p : Int) : List Int × Int :=
  if wordedErr r w ≠ 0 then ([], wordedErr r w) else if placeB r w p = false then ([], 6) else if 8 < (putW r w p.toNat).length then ([], 3) else (putW r w p.toNat, 0)

structure Move where
  step : Step
  word : List Int
deriving DecidableEq
instance : Inhabited Move := ⟨⟨⟨0, 0⟩, []⟩⟩

def moveAt (r : Rule) (w : List Int) (k : Nat) (i : Nat) : List Move := if (applyM r w i).2 = 0 then [⟨⟨k, i⟩, (applyM r w i).1⟩] else []
/-- The steps of one rule at n places from i on. -/
def movesR (r : Rule) (w : List Int) (k : Nat) : Nat → Nat → List Move
  | _, 0 => []
  | i, n + 1 => moveAt r w k i ++ movesR r w k (i + 1) n
/-- The steps of rules, the first of which has the number k. -/
def movesF (w : List Int) : Nat → List Rule → List Move
  | _, [] => []
  | k, r :: s => movesR r w k 0 (w.length + 1) ++ movesF w (k + 1) s
def movesM (s : List Rule) (w : List Int) : List Move := movesF w 0 s

def firstErr : List Rule → Int
  | [] => 0
  | r :: s => if ruleErr r ≠ 0 then ruleErr r else firstErr s
def sysErr (s : List Rule) : Int := if 6 < s.length then 3 else firstErr s
def swErr (s : List Rule) (w : List Int) : Int := if sysErr s ≠ 0 then sysErr s else wordErr w
def stepsM (s : List Rule) (w : List Int) : List Step := if swErr s w ≠ 0 then [] else (movesM s w).map (·.step)

/-! ### grounds -/
def mayAll : List Int := [-1, 0, 1, 2, 3, 4, 5]
def insideM (a b : List Int) : Bool := mayAll.all fun n => !mayS a n || mayS b n
def twoErr (r s : Rule) : Int := if ruleErr r ≠ 0 then ruleErr r else ruleErr s
def specM (r s : Rule) : Bool := decide (twoErr r s = 0) && (decide (r.frm = s.frm) && (insideM r.left s.left && insideM r.right s.right))
def lastPlace (a : Step) (rb : Rule) (b : Step) : Int := if b.place < a.place then (if 0 ≤ rb.frm then a.place + rb.to.length - 1 else a.place + rb.to.length) else a.place
def lastsM (w : List Int) (ra : Rule) (a : Step) (rb : Rule) (b : Step) : Bool := decide ((applyM ra (applyM rb w b.place).1 (lastPlace a rb b)).2 = 0)
def proM (w : List Int) (g : Int) (ra : Rule) (a : Step) (rb : Rule) (b : Step) : Bool :=
  if g = 1 then decide (a.place = b.place) && (specM ra rb && !specM rb ra)
  else if g = 2 then lastsM w ra a rb b && !lastsM w rb b ra a
  else if g = 3 then decide (a.place < b.place) else decide (b.rule < a.rule)
def decideM (w : List Int) (g : Int) (ra : Rule) (a : Step) (rb : Rule) (b : Step) : Int := if proM w g ra a rb b then 1 else if proM w g rb b ra a then -1 else 0
def beatsM (w : List Int) : List Int → Rule → Step → Rule → Step → Int
  | [], _, _, _, _ => 0
  | g :: gs, ra, a, rb, b => if decideM w g ra a rb b ≠ 0 then decideM w g ra a rb b * g else beatsM w gs ra a rb b
/-- The ground by which a step beats another one, by a system. -/
def beatsS (s : List Rule) (w gs : List Int) (a b : Step) : Int := beatsM w gs (el s a.rule.toNat) a (el s b.rule.toNat) b

/-! ### who wins -/
/-- Whether the candidate beats all others of a list. -/
def topOf (s : List Rule) (w gs : List Int) (l : List Step) (a : Step) : Bool := l.all fun b => decide (b = a) || decide (0 < beatsS s w gs a b)
def bestM (s : List Rule) (w gs : List Int) (l : List Step) : Option Step := l.find? (topOf s w gs l)
/-- The choice for a word. -/
def choiceM (s : List Rule) (w gs : List Int) : Option Choice :=
  match stepsM s w with
  | [] => none
  | c :: l => match bestM s w gs (c :: l) with
    | none => some ⟨(el (c :: l) l.length).rule, (el (c :: l) l.length).place, 0⟩
    | some a => some ⟨a.rule, a.place, match (c :: l).find? (fun b => decide (b ≠ a)) with | some b => beatsS s w gs a b | none => 0⟩
def nextW (s : List Rule) (w : List Int) (c : Choice) : List Int := (applyM (el s c.rule.toNat) w c.place).1
end Go.Proofs.YtkhddecnllcaiaaGreat
end

section
/- Functions of the cut as the value layer reads them. (written by gen.py) -/
set_option maxRecDepth 20000
namespace Go.Proofs.YtkhddecnllcaiaaGreat
open Go.Abs Go

def A72 : ACode :=
  (.seq (.reg [] [⟨some 2, (.assign (.const (.int .i64 0))), 28, none⟩])
    (.seq (.seq (.reg [] [⟨some 6, (.move (.tmp 0)), 22, none⟩,
      ⟨some 7, (.call ⟨(.builtin .len), #[(.tmp 6)], #[22]⟩), 3, none⟩,
      ⟨some 8, (.binOp .gtr 3 (.tmp 7) (.const (.int .i64 6)) 3), 4, none⟩])
    (.cond (.tmp 8)
    (.seq (.reg [] [⟨some 2, (.assign (.const (.int .i64 3))), 28, none⟩])
    .ret)
    .skip))
    (.seq (.seq (.reg [] [⟨some 9, (.move (.tmp 0)), 22, none⟩,
      ⟨some 10, (.call ⟨(.builtin .len), #[(.tmp 9)], #[22]⟩), 3, none⟩,
      ⟨some 11, (.move (.const (.int .i64 0))), 3, none⟩])
    (.block 0 (.loop (.seq (.reg [] [⟨some 12, (.binOp .lss 3 (.tmp 11) (.tmp 10) 3), 0, none⟩])
    (.seq (.cond (.tmp 12)
    .skip
    (.exit 0))
    (.seq (.block 1 (.seq (.reg [] [⟨some 13, (.indexAddr 22 (.tmp 9) (.tmp 11)), 0, none⟩,
      ⟨some 14, (.load 46 (.tmp 13)), 46, none⟩,
      ⟨some 4, (.alloc 46), 0, none⟩,
      ⟨none, (.store 46 (.tmp 4) (.tmp 14)), 0, none⟩])
    (.seq (.reg [] [⟨some 15, (.load 46 (.tmp 4)), 46, none⟩,
      ⟨some 16, (.call ⟨(.value (.func 100)), #[(.tmp 15)], #[46]⟩), 28, none⟩,
      ⟨some 5, (.assign (.tmp 16)), 28, none⟩])
    (.seq (.reg [] [⟨some 17, (.move (.tmp 5)), 28, none⟩,
      ⟨some 18, (.binOp .neq 28 (.tmp 17) (.const (.int .i64 0)) 28), 4, none⟩])
    (.cond (.tmp 18)
    (.seq (.reg [] [⟨some 19, (.move (.tmp 5)), 28, none⟩,
      ⟨some 2, (.assign (.tmp 19)), 28, none⟩])
    .ret)
    .skip)))))
    (.reg [] [⟨some 20, (.binOp .add 3 (.tmp 11) (.const (.int .i64 1)) 3), 3, none⟩,
      ⟨some 11, (.move (.tmp 20)), 3, none⟩])))))))
    (.seq (.reg [] [⟨some 2, (.assign (.const (.int .i64 0))), 28, none⟩])
    .ret))))
theorem C72 {args : List AV} {r : AV} (hn : args.length ≤ 21) (h : vc Tryz.prog T [] A72 (Fin T [(.tmp 2)] r) ⟨envOf 0 args, []⟩) : CallP Tryz.prog 72 args r :=
  callP_of tok mixed Tryz.func72 (by kernel_rfl) (by kernel_rfl) (by kernel_rfl : Tryz.f72.ntmps = 21) (by kernel_rfl : Tryz.f72.body.bind (strip 21 (fun _ => [])) = some A72) hn h
def A97 : ACode :=
  (.seq (.reg [] [⟨some 2, (.assign (.const (.int .i64 0))), 28, none⟩])
    (.seq (.seq (.reg [] [⟨some 5, (.move (.tmp 0)), 22, none⟩,
      ⟨some 6, (.call ⟨(.builtin .len), #[(.tmp 5)], #[22]⟩), 3, none⟩,
      ⟨some 7, (.binOp .gtr 3 (.tmp 6) (.const (.int .i64 6)) 3), 4, none⟩])
    (.cond (.tmp 7)
    (.seq (.reg [] [⟨some 2, (.assign (.const (.int .i64 3))), 28, none⟩])
    .ret)
    .skip))
    (.seq (.seq (.reg [] [⟨some 3, (.assign (.const (.int .i64 0))), 3, none⟩])
    (.block 0 (.loop (.seq (.seq (.reg [] [⟨some 8, (.move (.tmp 3)), 3, none⟩,
      ⟨some 9, (.move (.tmp 0)), 22, none⟩,
      ⟨some 10, (.call ⟨(.builtin .len), #[(.tmp 9)], #[22]⟩), 3, none⟩,
      ⟨some 11, (.binOp .lss 3 (.tmp 8) (.tmp 10) 3), 4, none⟩])
    (.cond (.tmp 11)
    .skip
    (.exit 0)))
    (.seq (.block 1 (.seq (.reg [] [⟨some 14, (.move (.tmp 0)), 22, none⟩,
      ⟨some 15, (.move (.tmp 3)), 3, none⟩,
      ⟨some 16, (.indexAddr 22 (.tmp 14) (.tmp 15)), 0, none⟩,
      ⟨some 17, (.load 46 (.tmp 16)), 46, none⟩,
      ⟨some 18, (.call ⟨(.value (.func 142)), #[(.tmp 17)], #[46]⟩), 28, none⟩,
      ⟨some 4, (.assign (.tmp 18)), 28, none⟩])
    (.seq (.reg [] [⟨some 19, (.move (.tmp 4)), 28, none⟩,
      ⟨some 20, (.binOp .neq 28 (.tmp 19) (.const (.int .i64 0)) 28), 4, none⟩])
    (.cond (.tmp 20)
    (.seq (.reg [] [⟨some 21, (.move (.tmp 4)), 28, none⟩,
      ⟨some 2, (.assign (.tmp 21)), 28, none⟩])
    .ret)
    .skip))))
    (.reg [] [⟨some 12, (.move (.tmp 3)), 3, none⟩,
      ⟨some 13, (.binOp .add 3 (.tmp 12) (.const (.int .i64 1)) 3), 3, none⟩,
      ⟨some 3, (.assign (.tmp 13)), 3, none⟩]))))))
    (.seq (.reg [] [⟨some 2, (.assign (.const (.int .i64 0))), 28, none⟩])
    .ret))))
theorem C97 {args : List AV} {r : AV} (hn : args.length ≤ 22) (h : vc Tryz.prog T [] A97 (Fin T [(.tmp 2)] r) ⟨envOf 0 args, []⟩) : CallP Tryz.prog 97 args r :=
  callP_of tok mixed Tryz.func97 (by kernel_rfl) (by kernel_rfl) (by kernel_rfl : Tryz.f97.ntmps = 22) (by kernel_rfl : Tryz.f97.body.bind (strip 22 (fun _ => [])) = some A97) hn h
def A76 : ACode :=
  (.seq (.reg [] [⟨some 4, (.assign (.const (.slice none 0 0))), 96, none⟩])
    (.seq (.reg [] [⟨some 5, (.assign (.const (.slice none 0 0))), 96, none⟩])
    (.seq (.seq (.reg [] [⟨some 14, (.move (.tmp 0)), 22, none⟩,
      ⟨some 15, (.call ⟨(.builtin .len), #[(.tmp 14)], #[22]⟩), 3, none⟩,
      ⟨some 16, (.move (.const (.int .i64 0))), 3, none⟩])
    (.block 0 (.loop (.seq (.reg [] [⟨some 17, (.binOp .lss 3 (.tmp 16) (.tmp 15) 3), 0, none⟩])
    (.seq (.cond (.tmp 17)
    .skip
    (.exit 0))
    (.seq (.block 1 (.seq (.reg [] [⟨some 18, (.move (.tmp 16)), 3, none⟩,
      ⟨some 19, (.indexAddr 22 (.tmp 14) (.tmp 16)), 0, none⟩,
      ⟨some 20, (.load 46 (.tmp 19)), 46, none⟩,
      ⟨some 7, (.alloc 46), 0, none⟩,
      ⟨some 6, (.assign (.tmp 18)), 3, none⟩,
      ⟨none, (.store 46 (.tmp 7) (.tmp 20)), 0, none⟩])
    (.seq (.reg [] [⟨some 22, (.load 46 (.tmp 7)), 46, none⟩,
      ⟨some 23, (.move (.tmp 1)), 23, none⟩,
      ⟨some 24, (.call ⟨(.value (.func 101)), #[(.tmp 22), (.tmp 23)], #[46, 23]⟩), 38, none⟩,
      ⟨some 21, (.move (.tmp 24)), 38, none⟩,
      ⟨some 25, (.extract (.tmp 21) 0), 23, none⟩,
      ⟨some 26, (.extract (.tmp 21) 1), 28, none⟩,
      ⟨some 8, (.assign (.tmp 25)), 23, none⟩,
      ⟨some 9, (.assign (.tmp 26)), 28, none⟩])
    (.seq (.reg [] [⟨some 27, (.move (.tmp 8)), 23, none⟩,
      ⟨some 28, (.call ⟨(.builtin .len), #[(.tmp 27)], #[23]⟩), 3, none⟩,
      ⟨some 29, (.move (.const (.int .i64 0))), 3, none⟩])
    (.block 2 (.loop (.seq (.reg [] [⟨some 30, (.binOp .lss 3 (.tmp 29) (.tmp 28) 3), 0, none⟩])
    (.seq (.cond (.tmp 30)
    .skip
    (.exit 2))
    (.seq (.block 3 (.seq (.reg [] [⟨some 31, (.indexAddr 23 (.tmp 27) (.tmp 29)), 0, none⟩,
      ⟨some 32, (.load 3 (.tmp 31)), 3, none⟩,
      ⟨some 11, (.assign (.tmp 32)), 3, none⟩])
    (.seq (.reg [] [⟨some 34, (.load 46 (.tmp 7)), 46, none⟩,
      ⟨some 35, (.move (.tmp 1)), 23, none⟩,
      ⟨some 36, (.move (.tmp 11)), 3, none⟩,
      ⟨some 37, (.call ⟨(.value (.func 102)), #[(.tmp 34), (.tmp 35), (.tmp 36)], #[46, 23, 3]⟩), 38, none⟩,
      ⟨some 33, (.move (.tmp 37)), 38, none⟩,
      ⟨some 38, (.extract (.tmp 33) 0), 23, none⟩,
      ⟨some 39, (.extract (.tmp 33) 1), 28, none⟩,
      ⟨some 12, (.assign (.tmp 38)), 23, none⟩,
      ⟨some 13, (.assign (.tmp 39)), 28, none⟩])
    (.seq (.reg [] [⟨some 40, (.move (.tmp 13)), 28, none⟩,
      ⟨some 41, (.binOp .eql 28 (.tmp 40) (.const (.int .i64 0)) 28), 4, none⟩])
    (.cond (.tmp 41)
    (.reg [] [⟨some 42, (.move (.tmp 5)), 96, none⟩,
      ⟨some 43, (.move (.tmp 6)), 3, none⟩,
      ⟨some 44, (.move (.tmp 11)), 3, none⟩,
      ⟨some 45, (.build 103 #[(0, (.tmp 43)), (1, (.tmp 44))]), 103, none⟩,
      ⟨some 46, (.move (.tmp 12)), 23, none⟩,
      ⟨some 47, (.build 105 #[(0, (.tmp 45)), (1, (.tmp 46))]), 105, none⟩,
      ⟨some 48, (.buildSlice 96 1 #[(0, (.tmp 47))]), 96, none⟩,
      ⟨some 49, (.call ⟨(.builtin .append), #[(.tmp 42), (.tmp 48)], #[96, 96]⟩), 96, none⟩,
      ⟨some 5, (.assign (.tmp 49)), 96, none⟩])
    .skip)))))
    (.reg [] [⟨some 50, (.binOp .add 3 (.tmp 29) (.const (.int .i64 1)) 3), 3, none⟩,
      ⟨some 29, (.move (.tmp 50)), 3, none⟩]))))))))))
    (.reg [] [⟨some 51, (.binOp .add 3 (.tmp 16) (.const (.int .i64 1)) 3), 3, none⟩,
      ⟨some 16, (.move (.tmp 51)), 3, none⟩])))))))
    (.seq (.reg [] [⟨some 52, (.move (.tmp 5)), 96, none⟩,
      ⟨some 4, (.assign (.tmp 52)), 96, none⟩])
    .ret))))
theorem C76 {args : List AV} {r : AV} (hn : args.length ≤ 53) (h : vc Tryz.prog T [] A76 (Fin T [(.tmp 4)] r) ⟨envOf 0 args, []⟩) : CallP Tryz.prog 76 args r :=
  callP_of tok mixed Tryz.func76 (by kernel_rfl) (by kernel_rfl) (by kernel_rfl : Tryz.f76.ntmps = 53) (by kernel_rfl : Tryz.f76.body.bind (strip 53 (fun _ => [])) = some A76) hn h
def A74 : ACode :=
  (.seq (.reg [] [⟨some 4, (.assign (.const (.int .i64 0))), 28, none⟩])
    (.seq (.seq (.reg [] [⟨some 9, (.move (.tmp 0)), 22, none⟩,
      ⟨some 10, (.call ⟨(.value (.func 72)), #[(.tmp 9)], #[22]⟩), 28, none⟩,
      ⟨some 5, (.assign (.tmp 10)), 28, none⟩])
    (.seq (.reg [] [⟨some 11, (.move (.tmp 5)), 28, none⟩,
      ⟨some 12, (.binOp .neq 28 (.tmp 11) (.const (.int .i64 0)) 28), 4, none⟩])
    (.cond (.tmp 12)
    (.seq (.reg [] [⟨some 13, (.move (.tmp 5)), 28, none⟩,
      ⟨some 4, (.assign (.tmp 13)), 28, none⟩])
    .ret)
    .skip)))
    (.seq (.seq (.reg [] [⟨some 14, (.move (.tmp 1)), 27, none⟩,
      ⟨some 15, (.call ⟨(.builtin .len), #[(.tmp 14)], #[27]⟩), 3, none⟩,
      ⟨some 16, (.move (.const (.int .i64 0))), 3, none⟩])
    (.block 0 (.loop (.seq (.reg [] [⟨some 17, (.binOp .lss 3 (.tmp 16) (.tmp 15) 3), 0, none⟩])
    (.seq (.cond (.tmp 17)
    .skip
    (.exit 0))
    (.seq (.block 1 (.seq (.reg [] [⟨some 18, (.indexAddr 27 (.tmp 14) (.tmp 16)), 0, none⟩,
      ⟨some 19, (.load 23 (.tmp 18)), 23, none⟩,
      ⟨some 7, (.assign (.tmp 19)), 23, none⟩])
    (.seq (.reg [] [⟨some 20, (.move (.tmp 7)), 23, none⟩,
      ⟨some 21, (.call ⟨(.value (.func 94)), #[(.tmp 20)], #[23]⟩), 28, none⟩,
      ⟨some 8, (.assign (.tmp 21)), 28, none⟩])
    (.seq (.reg [] [⟨some 22, (.move (.tmp 8)), 28, none⟩,
      ⟨some 23, (.binOp .neq 28 (.tmp 22) (.const (.int .i64 0)) 28), 4, none⟩])
    (.cond (.tmp 23)
    (.seq (.reg [] [⟨some 24, (.move (.tmp 8)), 28, none⟩,
      ⟨some 4, (.assign (.tmp 24)), 28, none⟩])
    .ret)
    .skip)))))
    (.reg [] [⟨some 25, (.binOp .add 3 (.tmp 16) (.const (.int .i64 1)) 3), 3, none⟩,
      ⟨some 16, (.move (.tmp 25)), 3, none⟩])))))))
    (.seq (.reg [] [⟨some 4, (.assign (.const (.int .i64 0))), 28, none⟩])
    .ret))))
theorem C74 {args : List AV} {r : AV} (hn : args.length ≤ 26) (h : vc Tryz.prog T [] A74 (Fin T [(.tmp 4)] r) ⟨envOf 0 args, []⟩) : CallP Tryz.prog 74 args r :=
  callP_of tok mixed Tryz.func74 (by kernel_rfl) (by kernel_rfl) (by kernel_rfl : Tryz.f74.ntmps = 26) (by kernel_rfl : Tryz.f74.body.bind (strip 26 (fun _ => [])) = some A74) hn h
end Go.Proofs.YtkhddecnllcaiaaGreat
end

section
/- Contracts: rule.Places, rule.Apply and the checks of systems. -/
namespace Go.Proofs.YtkhddecnllcaiaaGreat
open Go.Abs Go
set_option maxRecDepth 20000
set_option maxHeartbeats 2000000
attribute [local irreducible] PreK CondK CallK CallG CallX LoopK

theorem wordErr_zero {w : List Int} (h : wordErr w = 0) : w.length ≤ 8 ∧ w.all isSound = true := by
  unfold wordErr at h
  by_cases h1 : 8 < w.length
  · simp [h1] at h
  · rw [if_neg h1] at h
    by_cases h2 : w.any (fun x => !isSound x) = true
    · rw [if_pos h2] at h; cases h
    · refine ⟨by omega, ?_⟩
      rw [List.all_eq_true]
      intro x hx
      simp only [List.any_eq_true, not_exists, not_and] at h2
      simpa using h2 x hx
theorem wordedErr_zero {r : Rule} {w : List Int} (h : wordedErr r w = 0) : ruleErr r = 0 ∧ wordErr w = 0 := by
  unfold wordedErr at h
  by_cases h1 : ruleErr r = 0
  · simp [h1] at h; exact ⟨h1, h⟩
  · simp [h1] at h
def placesM (r : Rule) (w : List Int) : List Int := placesF r w 0 (w.length + 1 - (long r).toNat)
def PlacesM (r : Rule) (w : List Int) : List Int × Int := if wordedErr r w ≠ 0 then ([], wordedErr r w) else (placesM r w, 0)
theorem Places_c (r : Rule) (w : List Int) (h : r.small) (hw : w.length ≤ 1000) : CallP Tryz.prog 101 [ruleV r, ints w] (.tup [ints (PlacesM r w).1, iv (PlacesM r w).2]) := by
  refine C101 (by simp) ?_
  simp [A101]
  try simp 
  repeat' (first
    | (refine CallX.pure (worded_c r w h hw) (by simp) (by simp) ?_; try simp )
    | (refine CallK.intro (worded_c r w h hw) (by simp) (by simp) ?_; try simp )
    | (refine CallG.intro (fun _ => worded_c r w h hw) (by simp) (by simp) ?_; try simp )
    | ((with_reducible refine PreK.intro ?_ ?_); (next => (first | omega | (intros; first | omega | (refine ⟨by omega, ?_⟩; repeat (first | assumption | constructor)) | assumption))); intro _; try simp )
    | fail)
  refine CondK.intro (fun h1 => ?_) (fun h1 => ?_)
  · simp at h1
    simp [PlacesM, h1]
  · simp at h1
    obtain ⟨h2, h3⟩ := wordedErr_zero h1
    obtain ⟨h4, h5⟩ := wordErr_zero h3
    try simp 
    repeat' (first
      | (refine CallX.pure (places_c r w h hw h5) (by simp) (by simp) ?_; try simp )
      | (refine CallK.intro (places_c r w h hw h5) (by simp) (by simp) ?_; try simp )
      | (refine CallG.intro (fun _ => places_c r w h hw h5) (by simp) (by simp) ?_; try simp )
      | ((with_reducible refine PreK.intro ?_ ?_); (next => (first | omega | (intros; first | omega | (refine ⟨by omega, ?_⟩; repeat (first | assumption | constructor)) | assumption))); intro _; try simp )
      | fail)
    simp [PlacesM, h1, placesM]

theorem placesF_any (r : Rule) (w : List Int) (p : Int) : ∀ (n i : Nat), (placesF r w i n).any (fun x => decide (p = x)) = (decide ((i : Int) ≤ p) && (decide (p < (i : Int) + n) && isAt r w p.toNat))
  | 0, i => by
    simp only [placesF, List.any_nil]
    by_cases h : (i : Int) ≤ p
    · have : ¬ p < (i : Int) + (0 : Nat) := by omega
      simp only [this, decide_false, Bool.false_and, Bool.and_false]
    · simp [h]
  | n + 1, i => by
    have ih := placesF_any r w p n (i + 1)
    unfold placesF
    by_cases hp : p = (i : Int)
    · subst hp
      have h1 : ¬ ((i + 1 : Nat) : Int) ≤ (i : Int) := by omega
      by_cases ha : isAt r w i = true
      · rw [if_pos ha]; simp [ha]; omega
      · rw [if_neg ha, ih]; simp [ha]
    · have h2 : decide ((i : Int) ≤ p) = decide (((i + 1 : Nat) : Int) ≤ p) := by
        by_cases h : (i : Int) ≤ p
        · have : ((i + 1 : Nat) : Int) ≤ p := by omega
          simp only [h, this]
        · have : ¬ ((i + 1 : Nat) : Int) ≤ p := by omega
          simp only [h, this]
      have h3 : decide (p < (i : Int) + (n + 1 : Nat)) = decide (p < ((i + 1 : Nat) : Int) + n) := by
        congr 1; simp only [eq_iff_iff]; omega
      rw [h2, h3]
      split
      · rw [List.any_cons, ih]; simp [hp]
      · exact ih
theorem long_cases (r : Rule) : long r = 0 ∨ long r = 1 := by unfold long; split <;> simp
theorem placesM_any (r : Rule) (w : List Int) (p : Int) : (placesM r w).any (fun x => decide (p = x)) = placeB r w p := by
  unfold placesM placeB
  rw [placesF_any]
  have hl := long_cases r
  by_cases h : (0 : Int) ≤ p
  · have e : decide (p < ((0 : Nat) : Int) + (w.length + 1 - (long r).toNat : Nat)) = decide (p + long r ≤ w.length) := by
      congr 1; simp only [eq_iff_iff]; omega
    rw [e]; simp
  · have : ¬ ((0 : Nat) : Int) ≤ p := by omega
    simp [h, this]
theorem placesF_len (r : Rule) (w : List Int) : ∀ (n i : Nat), (placesF r w i n).length ≤ n
  | 0, i => by simp [placesF]
  | n + 1, i => by
    have := placesF_len r w n (i + 1)
    unfold placesF
    split
    · simp; omega
    · omega
theorem placesM_len (r : Rule) (w : List Int) : (placesM r w).length ≤ w.length + 1 := by
  have := placesF_len r w (w.length + 1 - (long r).toNat) 0
  unfold placesM; omega
theorem ruleErr_to {r : Rule} (h : ruleErr r = 0) : r.to.length ≤ 2 := by
  unfold ruleErr at h
  by_cases h0 : (!isNeighbor r.frm) = true
  · rw [if_pos h0] at h; cases h
  · rw [if_neg h0] at h
    by_cases h1 : 2 < r.to.length
    · rw [if_pos h1] at h; cases h
    · omega
theorem Apply_c (r : Rule) (w : List Int) (p : Int) (h : r.small) (hw : w.length ≤ 1000) : CallP Tryz.prog 102 [ruleV r, ints w, iv p] (.tup [ints (applyM r w p).1, iv (applyM r w p).2]) := by
  refine C102 (by simp) ?_
  have hbig : (placesM r w).length ≤ big := by have := placesM_len r w; simp only [big]; omega
  simp [A102]
  try simp 
  repeat' (first
    | (refine CallX.pure (worded_c r w h hw) (by simp) (by simp) ?_; try simp )
    | (refine CallK.intro (worded_c r w h hw) (by simp) (by simp) ?_; try simp )
    | (refine CallG.intro (fun _ => worded_c r w h hw) (by simp) (by simp) ?_; try simp )
    | ((with_reducible refine PreK.intro ?_ ?_); (next => (first | omega | (intros; first | omega | (refine ⟨by omega, ?_⟩; repeat (first | assumption | constructor)) | assumption))); intro _; try simp )
    | fail)
  refine CondK.intro (fun h1 => ?_) (fun h1 => ?_)
  · simp at h1
    simp [applyM, h1]
  · simp at h1
    obtain ⟨h2, h3⟩ := wordedErr_zero h1
    obtain ⟨h4, h5⟩ := wordErr_zero h3
    try simp 
    repeat' (first
      | (refine CallX.pure (places_c r w h hw h5) (by simp) (by simp) ?_; try simp )
      | (refine CallK.intro (places_c r w h hw h5) (by simp) (by simp) ?_; try simp )
      | (refine CallG.intro (fun _ => places_c r w h hw h5) (by simp) (by simp) ?_; try simp )
      | (refine CallX.pure (contains_c (placesM r w) p hbig) (by simp) (by simp) ?_; try simp )
      | (refine CallK.intro (contains_c (placesM r w) p hbig) (by simp) (by simp) ?_; try simp )
      | (refine CallG.intro (fun _ => contains_c (placesM r w) p hbig) (by simp) (by simp) ?_; try simp )
      | ((with_reducible refine PreK.intro ?_ ?_); (next => (first | omega | (intros; first | omega | (refine ⟨by omega, ?_⟩; repeat (first | assumption | constructor)) | assumption))); intro _; try simp )
      | fail)
    rw [placesM_any]
    refine CondK.intro (fun h6 => ?_) (fun h6 => ?_)
    · simp at h6
      simp [applyM, h1, h6]
    · simp at h6
      have h6' := h6
      simp only [placeB, Bool.and_eq_true, decide_eq_true_eq] at h6'
      have hl := long_cases r
      obtain ⟨n, rfl⟩ := Int.eq_ofNat_of_zero_le h6'.1
      have ht := ruleErr_to h2
      have e1 : n + (long r).toNat ≤ w.length := by omega
      have e2 := put_c r w n e1 (by omega) (by omega)
      try simp 
      repeat' (first
        | (refine CallX.pure (e2) (by simp) (by simp) ?_; try simp )
        | (refine CallK.intro (e2) (by simp) (by simp) ?_; try simp )
        | (refine CallG.intro (fun _ => e2) (by simp) (by simp) ?_; try simp )
        | (refine CallX.pure (short_c (putW r w n)) (by simp) (by simp) ?_; try simp )
        | (refine CallK.intro (short_c (putW r w n)) (by simp) (by simp) ?_; try simp )
        | (refine CallG.intro (fun _ => short_c (putW r w n)) (by simp) (by simp) ?_; try simp )
        | ((with_reducible refine PreK.intro ?_ ?_); (next => (first | omega | (intros; first | omega | (refine ⟨by omega, ?_⟩; repeat (first | assumption | constructor)) | assumption))); intro _; try simp )
        | fail)
      by_cases h7 : 8 < (putW r w n).length
      · simp [applyM, h1, h6, h7, shortErr]
      · simp [applyM, h1, h6, h7, shortErr]
end Go.Proofs.YtkhddecnllcaiaaGreat
end

section
/- Functions of the cut as the value layer reads them. (written by gen.py) -/
set_option maxRecDepth 20000
namespace Go.Proofs.YtkhddecnllcaiaaGreat
open Go.Abs Go

def A98 : ACode :=
  (.seq (.reg [] [⟨some 2, (.assign (.const (.int .i64 0))), 28, none⟩])
    (.seq (.seq (.reg [] [⟨some 3, (.move (.tmp 0)), 23, none⟩,
      ⟨some 4, (.call ⟨(.builtin .len), #[(.tmp 3)], #[23]⟩), 3, none⟩,
      ⟨some 5, (.binOp .gtr 3 (.tmp 4) (.const (.int .i64 8)) 3), 4, none⟩])
    (.cond (.tmp 5)
    (.seq (.reg [] [⟨some 2, (.assign (.const (.int .i64 3))), 28, none⟩])
    .ret)
    .skip))
    (.seq (.seq (.reg [] [⟨some 6, (.move (.tmp 0)), 23, none⟩,
      ⟨some 7, (.call ⟨(.value (.func 143)), #[(.tmp 6)], #[23]⟩), 4, none⟩,
      ⟨some 8, (.unOp .not 4 (.tmp 7)), 4, none⟩])
    (.cond (.tmp 8)
    (.seq (.reg [] [⟨some 2, (.assign (.const (.int .i64 1))), 28, none⟩])
    .ret)
    .skip))
    (.seq (.reg [] [⟨some 2, (.assign (.const (.int .i64 0))), 28, none⟩])
    .ret))))
theorem C98 {args : List AV} {r : AV} (hn : args.length ≤ 9) (h : vc Tryz.prog T [] A98 (Fin T [(.tmp 2)] r) ⟨envOf 0 args, []⟩) : CallP Tryz.prog 98 args r :=
  callP_of tok mixed Tryz.func98 (by kernel_rfl) (by kernel_rfl) (by kernel_rfl : Tryz.f98.ntmps = 9) (by kernel_rfl : Tryz.f98.body.bind (strip 9 (fun _ => [])) = some A98) hn h
def A77 : ACode :=
  (.seq (.reg [] [⟨some 6, (.assign (.const (.int .i64 0))), 28, none⟩])
    (.seq (.seq (.reg [] [⟨some 9, (.move (.tmp 0)), 22, none⟩,
      ⟨some 10, (.call ⟨(.value (.func 97)), #[(.tmp 9)], #[22]⟩), 28, none⟩,
      ⟨some 7, (.assign (.tmp 10)), 28, none⟩])
    (.seq (.reg [] [⟨some 11, (.move (.tmp 7)), 28, none⟩,
      ⟨some 12, (.binOp .neq 28 (.tmp 11) (.const (.int .i64 0)) 28), 4, none⟩])
    (.cond (.tmp 12)
    (.seq (.reg [] [⟨some 13, (.move (.tmp 7)), 28, none⟩,
      ⟨some 6, (.assign (.tmp 13)), 28, none⟩])
    .ret)
    .skip)))
    (.seq (.seq (.reg [] [⟨some 14, (.move (.tmp 1)), 23, none⟩,
      ⟨some 15, (.call ⟨(.value (.func 98)), #[(.tmp 14)], #[23]⟩), 28, none⟩,
      ⟨some 8, (.assign (.tmp 15)), 28, none⟩])
    (.seq (.reg [] [⟨some 16, (.move (.tmp 8)), 28, none⟩,
      ⟨some 17, (.binOp .neq 28 (.tmp 16) (.const (.int .i64 0)) 28), 4, none⟩])
    (.cond (.tmp 17)
    (.seq (.reg [] [⟨some 18, (.move (.tmp 8)), 28, none⟩,
      ⟨some 6, (.assign (.tmp 18)), 28, none⟩])
    .ret)
    .skip)))
    (.seq (.reg [] [⟨some 19, (.move (.tmp 2)), 23, none⟩,
      ⟨some 20, (.call ⟨(.value (.func 98)), #[(.tmp 19)], #[23]⟩), 28, none⟩,
      ⟨some 6, (.assign (.tmp 20)), 28, none⟩])
    .ret))))
theorem C77 {args : List AV} {r : AV} (hn : args.length ≤ 21) (h : vc Tryz.prog T [] A77 (Fin T [(.tmp 6)] r) ⟨envOf 0 args, []⟩) : CallP Tryz.prog 77 args r :=
  callP_of tok mixed Tryz.func77 (by kernel_rfl) (by kernel_rfl) (by kernel_rfl : Tryz.f77.ntmps = 21) (by kernel_rfl : Tryz.f77.body.bind (strip 21 (fun _ => [])) = some A77) hn h
def A150 : ACode :=
  (.seq (.reg [] [⟨some 4, (.assign (.const (.slice none 0 0))), 58, none⟩,
      ⟨some 5, (.assign (.const (.slice none 0 0))), 27, none⟩])
    (.seq (.reg [] [⟨some 6, (.assign (.const (.slice none 0 0))), 58, none⟩])
    (.seq (.reg [] [⟨some 7, (.assign (.const (.slice none 0 0))), 27, none⟩])
    (.seq (.seq (.reg [] [⟨some 8, (.assign (.const (.int .i64 0))), 3, none⟩])
    (.block 0 (.loop (.seq (.seq (.reg [] [⟨some 12, (.move (.tmp 8)), 3, none⟩,
      ⟨some 13, (.move (.tmp 0)), 22, none⟩,
      ⟨some 14, (.call ⟨(.builtin .len), #[(.tmp 13)], #[22]⟩), 3, none⟩,
      ⟨some 15, (.binOp .lss 3 (.tmp 12) (.tmp 14) 3), 4, none⟩])
    (.cond (.tmp 15)
    .skip
    (.exit 0)))
    (.seq (.block 1 (.seq (.reg [] [⟨some 9, (.assign (.const (.int .i64 0))), 3, none⟩])
    (.block 2 (.loop (.seq (.seq (.reg [] [⟨some 18, (.move (.tmp 9)), 3, none⟩,
      ⟨some 19, (.move (.tmp 1)), 23, none⟩,
      ⟨some 20, (.call ⟨(.builtin .len), #[(.tmp 19)], #[23]⟩), 3, none⟩,
      ⟨some 21, (.binOp .leq 3 (.tmp 18) (.tmp 20) 3), 4, none⟩])
    (.cond (.tmp 21)
    .skip
    (.exit 2)))
    (.seq (.block 3 (.seq (.reg [] [⟨some 25, (.move (.tmp 0)), 22, none⟩,
      ⟨some 26, (.move (.tmp 8)), 3, none⟩,
      ⟨some 27, (.indexAddr 22 (.tmp 25) (.tmp 26)), 0, none⟩,
      ⟨some 28, (.load 46 (.tmp 27)), 46, none⟩,
      ⟨some 29, (.move (.tmp 1)), 23, none⟩,
      ⟨some 30, (.move (.tmp 9)), 3, none⟩,
      ⟨some 31, (.call ⟨(.value (.func 128)), #[(.tmp 28), (.tmp 29), (.tmp 30)], #[46, 23, 3]⟩), 38, none⟩,
      ⟨some 24, (.move (.tmp 31)), 38, none⟩,
      ⟨some 32, (.extract (.tmp 24) 0), 23, none⟩,
      ⟨some 33, (.extract (.tmp 24) 1), 28, none⟩,
      ⟨some 10, (.assign (.tmp 32)), 23, none⟩,
      ⟨some 11, (.assign (.tmp 33)), 28, none⟩])
    (.seq (.reg [] [⟨some 34, (.move (.tmp 11)), 28, none⟩,
      ⟨some 35, (.binOp .eql 28 (.tmp 34) (.const (.int .i64 0)) 28), 4, none⟩])
    (.cond (.tmp 35)
    (.seq (.reg [] [⟨some 36, (.move (.tmp 6)), 58, none⟩,
      ⟨some 37, (.move (.tmp 8)), 3, none⟩,
      ⟨some 38, (.move (.tmp 9)), 3, none⟩,
      ⟨some 39, (.build 103 #[(0, (.tmp 37)), (1, (.tmp 38))]), 103, none⟩,
      ⟨some 40, (.buildSlice 58 1 #[(0, (.tmp 39))]), 58, none⟩,
      ⟨some 41, (.call ⟨(.builtin .append), #[(.tmp 36), (.tmp 40)], #[58, 58]⟩), 58, none⟩,
      ⟨some 6, (.assign (.tmp 41)), 58, none⟩])
    (.reg [] [⟨some 42, (.move (.tmp 7)), 27, none⟩,
      ⟨some 43, (.move (.tmp 10)), 23, none⟩,
      ⟨some 44, (.buildSlice 27 1 #[(0, (.tmp 43))]), 27, none⟩,
      ⟨some 45, (.call ⟨(.builtin .append), #[(.tmp 42), (.tmp 44)], #[27, 27]⟩), 27, none⟩,
      ⟨some 7, (.assign (.tmp 45)), 27, none⟩]))
    .skip))))
    (.reg [] [⟨some 22, (.move (.tmp 9)), 3, none⟩,
      ⟨some 23, (.binOp .add 3 (.tmp 22) (.const (.int .i64 1)) 3), 3, none⟩,
      ⟨some 9, (.assign (.tmp 23)), 3, none⟩])))))))
    (.reg [] [⟨some 16, (.move (.tmp 8)), 3, none⟩,
      ⟨some 17, (.binOp .add 3 (.tmp 16) (.const (.int .i64 1)) 3), 3, none⟩,
      ⟨some 8, (.assign (.tmp 17)), 3, none⟩]))))))
    (.seq (.reg [] [⟨some 46, (.move (.tmp 6)), 58, none⟩,
      ⟨some 47, (.move (.tmp 7)), 27, none⟩,
      ⟨some 4, (.assign (.tmp 46)), 58, none⟩,
      ⟨some 5, (.assign (.tmp 47)), 27, none⟩])
    .ret)))))
theorem C150 {args : List AV} {r : AV} (hn : args.length ≤ 48) (h : vc Tryz.prog T [] A150 (Fin T [(.tmp 4), (.tmp 5)] r) ⟨envOf 0 args, []⟩) : CallP Tryz.prog 150 args r :=
  callP_of tok mixed Tryz.func150 (by kernel_rfl) (by kernel_rfl) (by kernel_rfl : Tryz.f150.ntmps = 48) (by kernel_rfl : Tryz.f150.body.bind (strip 48 (fun _ => [])) = some A150) hn h
def A142 : ACode :=
  (.seq (.reg [] [⟨some 1, (.box 46 (.tmp 0)), 0, none⟩,
      ⟨some 2, (.assign (.const (.int .i64 0))), 28, none⟩])
    (.seq (.seq (.reg [] [⟨some 3, (.fieldAddr 46 (.tmp 1) 0), 0, none⟩,
      ⟨some 4, (.load 3 (.tmp 3)), 3, none⟩,
      ⟨some 5, (.call ⟨(.value (.func 171)), #[(.tmp 4), (.const (.int .i64 (-1))), (.const (.int .i64 5))], #[3, 3, 3]⟩), 4, none⟩,
      ⟨some 6, (.unOp .not 4 (.tmp 5)), 4, none⟩])
    (.cond (.tmp 6)
    (.seq (.reg [] [⟨some 2, (.assign (.const (.int .i64 1))), 28, none⟩])
    .ret)
    .skip))
    (.seq (.seq (.reg [] [⟨some 7, (.fieldAddr 46 (.tmp 1) 1), 0, none⟩,
      ⟨some 8, (.load 23 (.tmp 7)), 23, none⟩,
      ⟨some 9, (.call ⟨(.builtin .len), #[(.tmp 8)], #[23]⟩), 3, none⟩,
      ⟨some 10, (.binOp .gtr 3 (.tmp 9) (.const (.int .i64 2)) 3), 4, none⟩])
    (.cond (.tmp 10)
    (.seq (.reg [] [⟨some 2, (.assign (.const (.int .i64 3))), 28, none⟩])
    .ret)
    .skip))
    (.seq (.seq (.reg [] [⟨some 11, (.fieldAddr 46 (.tmp 1) 1), 0, none⟩,
      ⟨some 12, (.load 23 (.tmp 11)), 23, none⟩,
      ⟨some 13, (.call ⟨(.value (.func 143)), #[(.tmp 12)], #[23]⟩), 4, none⟩,
      ⟨some 14, (.unOp .not 4 (.tmp 13)), 4, none⟩,
      ⟨some 15, (.move (.tmp 14)), 4, none⟩,
      ⟨some 16, (.fieldAddr 46 (.tmp 1) 2), 0, some (15, false)⟩,
      ⟨some 17, (.load 23 (.tmp 16)), 23, some (15, false)⟩,
      ⟨some 18, (.call ⟨(.value (.func 172)), #[(.tmp 17), (.const (.int .i64 (-1))), (.const (.int .i64 5))], #[23, 3, 3]⟩), 4, some (15, false)⟩,
      ⟨some 19, (.unOp .not 4 (.tmp 18)), 4, some (15, false)⟩,
      ⟨some 20, (.pick (.tmp 15) (.const (.bool true)) (.tmp 19)), 4, none⟩,
      ⟨some 21, (.move (.tmp 20)), 4, none⟩,
      ⟨some 22, (.fieldAddr 46 (.tmp 1) 3), 0, some (21, false)⟩,
      ⟨some 23, (.load 23 (.tmp 22)), 23, some (21, false)⟩,
      ⟨some 24, (.call ⟨(.value (.func 172)), #[(.tmp 23), (.const (.int .i64 (-1))), (.const (.int .i64 5))], #[23, 3, 3]⟩), 4, some (21, false)⟩,
      ⟨some 25, (.unOp .not 4 (.tmp 24)), 4, some (21, false)⟩,
      ⟨some 26, (.pick (.tmp 21) (.const (.bool true)) (.tmp 25)), 4, none⟩])
    (.cond (.tmp 26)
    (.seq (.reg [] [⟨some 2, (.assign (.const (.int .i64 1))), 28, none⟩])
    .ret)
    .skip))
    (.seq (.seq (.draw [] [⟨some 27, (.fieldAddr 46 (.tmp 1) 0), 0, none⟩,
      ⟨some 28, (.load 3 (.tmp 27)), 3, none⟩,
      ⟨some 29, (.binOp .lss 3 (.tmp 28) (.const (.int .i64 0)) 3), 4, none⟩,
      ⟨some 30, (.move (.tmp 29)), 4, none⟩,
      ⟨some 31, (.fieldAddr 46 (.tmp 1) 1), 0, some (30, true)⟩,
      ⟨some 32, (.load 23 (.tmp 31)), 23, some (30, true)⟩,
      ⟨some 33, (.call ⟨(.builtin .len), #[(.tmp 32)], #[23]⟩), 3, some (30, true)⟩,
      ⟨some 34, (.binOp .eql 3 (.tmp 33) (.const (.int .i64 0)) 3), 4, some (30, true)⟩,
      ⟨some 35, (.pick (.tmp 30) (.tmp 34) (.const (.bool false))), 4, none⟩,
      ⟨some 36, (.move (.tmp 35)), 4, none⟩,
      ⟨some 37, (.fieldAddr 46 (.tmp 1) 1), 0, some (36, false)⟩,
      ⟨some 38, (.load 23 (.tmp 37)), 23, some (36, false)⟩,
      ⟨some 39, (.call ⟨(.builtin .len), #[(.tmp 38)], #[23]⟩), 3, some (36, false)⟩,
      ⟨some 40, (.binOp .eql 3 (.tmp 39) (.const (.int .i64 1)) 3), 4, some (36, false)⟩,
      ⟨some 41, (.move (.tmp 40)), 4, some (36, false)⟩,
      ⟨some 42, (.fieldAddr 46 (.tmp 1) 1), 0, some (41, true)⟩,
      ⟨some 43, (.load 23 (.tmp 42)), 23, some (41, true)⟩,
      ⟨some 44, (.indexAddr 23 (.tmp 43) (.const (.int .i64 0))), 0, some (41, true)⟩,
      ⟨some 45, (.load 3 (.tmp 44)), 3, some (41, true)⟩,
      ⟨some 46, (.fieldAddr 46 (.tmp 1) 0), 0, some (41, true)⟩,
      ⟨some 47, (.load 3 (.tmp 46)), 3, some (41, true)⟩,
      ⟨some 48, (.binOp .eql 3 (.tmp 45) (.tmp 47) 3), 4, some (41, true)⟩,
      ⟨some 49, (.pick (.tmp 41) (.tmp 48) (.const (.bool false))), 4, some (36, false)⟩,
      ⟨some 50, (.pick (.tmp 36) (.const (.bool true)) (.tmp 49)), 4, none⟩] [(15, 19), (16, 19), (17, 19), (18, 19), (15, 20), (16, 20), (17, 20), (18, 20)])
    (.cond (.tmp 50)
    (.seq (.reg [] [⟨some 2, (.assign (.const (.int .i64 6))), 28, none⟩])
    .ret)
    .skip))
    (.seq (.reg [] [⟨some 2, (.assign (.const (.int .i64 0))), 28, none⟩])
    .ret))))))
theorem C142 {args : List AV} {r : AV} (hn : args.length ≤ 51) (h : vc Tryz.prog T [] A142 (Fin T [(.tmp 2)] r) ⟨envOf 0 args, []⟩) : CallP Tryz.prog 142 args r :=
  callP_of tok mixed Tryz.func142 (by kernel_rfl) (by kernel_rfl) (by kernel_rfl : Tryz.f142.ntmps = 51) (by kernel_rfl : Tryz.f142.body.bind (strip 51 (fun _ => [])) = some A142) hn h
def A128 : ACode :=
  (.seq (.reg [] [⟨some 3, (.box 46 (.tmp 0)), 0, none⟩,
      ⟨some 6, (.assign (.const (.slice none 0 0))), 23, none⟩,
      ⟨some 7, (.assign (.const (.int .i64 0))), 28, none⟩])
    (.seq (.seq (.reg [] [⟨some 9, (.load 46 (.tmp 3)), 46, none⟩,
      ⟨some 10, (.move (.tmp 1)), 23, none⟩,
      ⟨some 11, (.call ⟨(.value (.func 162)), #[(.tmp 9), (.tmp 10)], #[46, 23]⟩), 28, none⟩,
      ⟨some 8, (.assign (.tmp 11)), 28, none⟩])
    (.seq (.reg [] [⟨some 12, (.move (.tmp 8)), 28, none⟩,
      ⟨some 13, (.binOp .neq 28 (.tmp 12) (.const (.int .i64 0)) 28), 4, none⟩])
    (.cond (.tmp 13)
    (.seq (.reg [] [⟨some 14, (.move (.tmp 8)), 28, none⟩,
      ⟨some 6, (.assign (.const (.slice none 0 0))), 23, none⟩,
      ⟨some 7, (.assign (.tmp 14)), 28, none⟩])
    .ret)
    .skip)))
    (.seq (.seq (.reg [] [⟨some 15, (.load 46 (.tmp 3)), 46, none⟩,
      ⟨some 16, (.move (.tmp 1)), 23, none⟩,
      ⟨some 17, (.move (.tmp 2)), 3, none⟩,
      ⟨some 18, (.call ⟨(.value (.func 163)), #[(.tmp 15), (.tmp 16), (.tmp 17)], #[46, 23, 3]⟩), 4, none⟩,
      ⟨some 19, (.unOp .not 4 (.tmp 18)), 4, none⟩])
    (.cond (.tmp 19)
    (.seq (.reg [] [⟨some 6, (.assign (.const (.slice none 0 0))), 23, none⟩,
      ⟨some 7, (.assign (.const (.int .i64 6))), 28, none⟩])
    .ret)
    .skip))
    (.seq (.reg [] [⟨some 20, (.load 46 (.tmp 3)), 46, none⟩,
      ⟨some 21, (.move (.tmp 1)), 23, none⟩,
      ⟨some 22, (.move (.tmp 2)), 3, none⟩,
      ⟨some 23, (.call ⟨(.value (.func 165)), #[(.tmp 20), (.tmp 21), (.tmp 22)], #[46, 23, 3]⟩), 23, none⟩,
      ⟨some 24, (.call ⟨(.value (.func 164)), #[(.tmp 23)], #[23]⟩), 38, none⟩,
      ⟨some 25, (.extract (.tmp 24) 0), 23, none⟩,
      ⟨some 26, (.extract (.tmp 24) 1), 28, none⟩,
      ⟨some 6, (.assign (.tmp 25)), 23, none⟩,
      ⟨some 7, (.assign (.tmp 26)), 28, none⟩])
    .ret))))
theorem C128 {args : List AV} {r : AV} (hn : args.length ≤ 27) (h : vc Tryz.prog T [] A128 (Fin T [(.tmp 6), (.tmp 7)] r) ⟨envOf 0 args, []⟩) : CallP Tryz.prog 128 args r :=
  callP_of tok mixed Tryz.func128 (by kernel_rfl) (by kernel_rfl) (by kernel_rfl : Tryz.f128.ntmps = 27) (by kernel_rfl : Tryz.f128.body.bind (strip 27 (fun _ => [])) = some A128) hn h
def A143 : ACode :=
  (.seq (.reg [] [⟨some 2, (.assign (.const (.bool false))), 4, none⟩])
    (.seq (.seq (.reg [] [⟨some 3, (.assign (.const (.int .i64 0))), 3, none⟩])
    (.block 0 (.loop (.seq (.seq (.reg [] [⟨some 4, (.move (.tmp 3)), 3, none⟩,
      ⟨some 5, (.move (.tmp 0)), 23, none⟩,
      ⟨some 6, (.call ⟨(.builtin .len), #[(.tmp 5)], #[23]⟩), 3, none⟩,
      ⟨some 7, (.binOp .lss 3 (.tmp 4) (.tmp 6) 3), 4, none⟩])
    (.cond (.tmp 7)
    .skip
    (.exit 0)))
    (.seq (.block 1 (.seq (.reg [] [⟨some 10, (.move (.tmp 0)), 23, none⟩,
      ⟨some 11, (.move (.tmp 3)), 3, none⟩,
      ⟨some 12, (.indexAddr 23 (.tmp 10) (.tmp 11)), 0, none⟩,
      ⟨some 13, (.load 3 (.tmp 12)), 3, none⟩,
      ⟨some 14, (.call ⟨(.value (.func 171)), #[(.tmp 13), (.const (.int .i64 0)), (.const (.int .i64 5))], #[3, 3, 3]⟩), 4, none⟩,
      ⟨some 15, (.unOp .not 4 (.tmp 14)), 4, none⟩])
    (.cond (.tmp 15)
    (.seq (.reg [] [⟨some 2, (.assign (.const (.bool false))), 4, none⟩])
    .ret)
    .skip)))
    (.reg [] [⟨some 8, (.move (.tmp 3)), 3, none⟩,
      ⟨some 9, (.binOp .add 3 (.tmp 8) (.const (.int .i64 1)) 3), 3, none⟩,
      ⟨some 3, (.assign (.tmp 9)), 3, none⟩]))))))
    (.seq (.reg [] [⟨some 2, (.assign (.const (.bool true))), 4, none⟩])
    .ret)))
theorem C143 {args : List AV} {r : AV} (hn : args.length ≤ 16) (h : vc Tryz.prog T [] A143 (Fin T [(.tmp 2)] r) ⟨envOf 0 args, []⟩) : CallP Tryz.prog 143 args r :=
  callP_of tok mixed Tryz.func143 (by kernel_rfl) (by kernel_rfl) (by kernel_rfl : Tryz.f143.ntmps = 16) (by kernel_rfl : Tryz.f143.body.bind (strip 16 (fun _ => [])) = some A143) hn h
def A172 : ACode :=
  (.seq (.reg [] [⟨some 6, (.assign (.const (.bool false))), 4, none⟩])
    (.seq (.seq (.reg [] [⟨some 7, (.assign (.const (.int .i64 0))), 3, none⟩])
    (.block 0 (.loop (.seq (.seq (.reg [] [⟨some 8, (.move (.tmp 7)), 3, none⟩,
      ⟨some 9, (.move (.tmp 0)), 23, none⟩,
      ⟨some 10, (.call ⟨(.builtin .len), #[(.tmp 9)], #[23]⟩), 3, none⟩,
      ⟨some 11, (.binOp .lss 3 (.tmp 8) (.tmp 10) 3), 4, none⟩])
    (.cond (.tmp 11)
    .skip
    (.exit 0)))
    (.seq (.block 1 (.seq (.draw [] [⟨some 14, (.move (.tmp 0)), 23, none⟩,
      ⟨some 15, (.move (.tmp 7)), 3, none⟩,
      ⟨some 16, (.indexAddr 23 (.tmp 14) (.tmp 15)), 0, none⟩,
      ⟨some 17, (.load 3 (.tmp 16)), 3, none⟩,
      ⟨some 18, (.move (.tmp 1)), 3, none⟩,
      ⟨some 19, (.move (.tmp 2)), 3, none⟩,
      ⟨some 20, (.call ⟨(.value (.func 185)), #[(.tmp 17), (.tmp 18), (.tmp 19)], #[3, 3, 3]⟩), 4, none⟩,
      ⟨some 21, (.unOp .not 4 (.tmp 20)), 4, none⟩,
      ⟨some 22, (.move (.tmp 21)), 4, none⟩,
      ⟨some 23, (.move (.tmp 7)), 3, some (22, false)⟩,
      ⟨some 24, (.binOp .gtr 3 (.tmp 23) (.const (.int .i64 0)) 3), 4, some (22, false)⟩,
      ⟨some 25, (.move (.tmp 24)), 4, some (22, false)⟩,
      ⟨some 26, (.move (.tmp 0)), 23, some (25, true)⟩,
      ⟨some 27, (.move (.tmp 7)), 3, some (25, true)⟩,
      ⟨some 28, (.indexAddr 23 (.tmp 26) (.tmp 27)), 0, some (25, true)⟩,
      ⟨some 29, (.load 3 (.tmp 28)), 3, some (25, true)⟩,
      ⟨some 30, (.move (.tmp 0)), 23, some (25, true)⟩,
      ⟨some 31, (.move (.tmp 7)), 3, some (25, true)⟩,
      ⟨some 32, (.binOp .sub 3 (.tmp 31) (.const (.int .i64 1)) 3), 3, some (25, true)⟩,
      ⟨some 33, (.indexAddr 23 (.tmp 30) (.tmp 32)), 0, some (25, true)⟩,
      ⟨some 34, (.load 3 (.tmp 33)), 3, some (25, true)⟩,
      ⟨some 35, (.binOp .leq 3 (.tmp 29) (.tmp 34) 3), 4, some (25, true)⟩,
      ⟨some 36, (.pick (.tmp 25) (.tmp 35) (.const (.bool false))), 4, some (22, false)⟩,
      ⟨some 37, (.pick (.tmp 22) (.const (.bool true)) (.tmp 36)), 4, none⟩] [(0, 1), (0, 4), (1, 4), (2, 4), (3, 4), (0, 5), (1, 5), (2, 5), (3, 5), (4, 5), (12, 13), (12, 16), (13, 16), (14, 16), (15, 16), (12, 17), (13, 17), (14, 17), (15, 17), (16, 17), (12, 18), (13, 18), (14, 18), (15, 18), (16, 18), (12, 19), (13, 19), (14, 19), (15, 19), (12, 20), (13, 20), (14, 20), (15, 20)])
    (.cond (.tmp 37)
    (.seq (.reg [] [⟨some 6, (.assign (.const (.bool false))), 4, none⟩])
    .ret)
    .skip)))
    (.reg [] [⟨some 12, (.move (.tmp 7)), 3, none⟩,
      ⟨some 13, (.binOp .add 3 (.tmp 12) (.const (.int .i64 1)) 3), 3, none⟩,
      ⟨some 7, (.assign (.tmp 13)), 3, none⟩]))))))
    (.seq (.reg [] [⟨some 6, (.assign (.const (.bool true))), 4, none⟩])
    .ret)))
theorem C172 {args : List AV} {r : AV} (hn : args.length ≤ 38) (h : vc Tryz.prog T [] A172 (Fin T [(.tmp 6)] r) ⟨envOf 0 args, []⟩) : CallP Tryz.prog 172 args r :=
  callP_of tok mixed Tryz.func172 (by kernel_rfl) (by kernel_rfl) (by kernel_rfl : Tryz.f172.ntmps = 38) (by kernel_rfl : Tryz.f172.body.bind (strip 38 (fun _ => [])) = some A172) hn h
def A162 : ACode :=
  (.seq (.reg [] [⟨some 2, (.box 46 (.tmp 0)), 0, none⟩,
      ⟨some 4, (.assign (.const (.int .i64 0))), 28, none⟩])
    (.seq (.seq (.reg [] [⟨some 6, (.load 46 (.tmp 2)), 46, none⟩,
      ⟨some 7, (.call ⟨(.value (.func 142)), #[(.tmp 6)], #[46]⟩), 28, none⟩,
      ⟨some 5, (.assign (.tmp 7)), 28, none⟩])
    (.seq (.reg [] [⟨some 8, (.move (.tmp 5)), 28, none⟩,
      ⟨some 9, (.binOp .neq 28 (.tmp 8) (.const (.int .i64 0)) 28), 4, none⟩])
    (.cond (.tmp 9)
    (.seq (.reg [] [⟨some 10, (.move (.tmp 5)), 28, none⟩,
      ⟨some 4, (.assign (.tmp 10)), 28, none⟩])
    .ret)
    .skip)))
    (.seq (.reg [] [⟨some 11, (.move (.tmp 1)), 23, none⟩,
      ⟨some 12, (.call ⟨(.value (.func 98)), #[(.tmp 11)], #[23]⟩), 28, none⟩,
      ⟨some 4, (.assign (.tmp 12)), 28, none⟩])
    .ret)))
theorem C162 {args : List AV} {r : AV} (hn : args.length ≤ 13) (h : vc Tryz.prog T [] A162 (Fin T [(.tmp 4)] r) ⟨envOf 0 args, []⟩) : CallP Tryz.prog 162 args r :=
  callP_of tok mixed Tryz.func162 (by kernel_rfl) (by kernel_rfl) (by kernel_rfl : Tryz.f162.ntmps = 13) (by kernel_rfl : Tryz.f162.body.bind (strip 13 (fun _ => [])) = some A162) hn h
def A163 : ACode :=
  (.seq (.reg [] [⟨some 3, (.box 46 (.tmp 0)), 0, none⟩,
      ⟨some 6, (.assign (.const (.bool false))), 4, none⟩])
    (.seq (.seq (.reg [] [⟨some 7, (.fieldAddr 46 (.tmp 3) 0), 0, none⟩,
      ⟨some 8, (.load 3 (.tmp 7)), 3, none⟩,
      ⟨some 9, (.binOp .lss 3 (.tmp 8) (.const (.int .i64 0)) 3), 4, none⟩])
    (.cond (.tmp 9)
    (.seq (.draw [] [⟨some 10, (.move (.tmp 2)), 3, none⟩,
      ⟨some 11, (.move (.tmp 1)), 23, none⟩,
      ⟨some 12, (.call ⟨(.builtin .len), #[(.tmp 11)], #[23]⟩), 3, none⟩,
      ⟨some 13, (.call ⟨(.value (.func 171)), #[(.tmp 10), (.const (.int .i64 0)), (.tmp 12)], #[3, 3, 3]⟩), 4, none⟩,
      ⟨some 14, (.move (.tmp 13)), 4, none⟩,
      ⟨some 15, (.fieldAddr 46 (.tmp 3) 2), 0, some (14, true)⟩,
      ⟨some 16, (.load 23 (.tmp 15)), 23, some (14, true)⟩,
      ⟨some 17, (.move (.tmp 1)), 23, some (14, true)⟩,
      ⟨some 18, (.move (.tmp 2)), 3, some (14, true)⟩,
      ⟨some 19, (.binOp .sub 3 (.tmp 18) (.const (.int .i64 1)) 3), 3, some (14, true)⟩,
      ⟨some 20, (.call ⟨(.value (.func 182)), #[(.tmp 17), (.tmp 19)], #[23, 3]⟩), 3, some (14, true)⟩,
      ⟨some 21, (.call ⟨(.value (.func 181)), #[(.tmp 16), (.tmp 20)], #[23, 3]⟩), 4, some (14, true)⟩,
      ⟨some 22, (.pick (.tmp 14) (.tmp 21) (.const (.bool false))), 4, none⟩,
      ⟨some 23, (.move (.tmp 22)), 4, none⟩,
      ⟨some 24, (.fieldAddr 46 (.tmp 3) 3), 0, some (23, true)⟩,
      ⟨some 25, (.load 23 (.tmp 24)), 23, some (23, true)⟩,
      ⟨some 26, (.move (.tmp 1)), 23, some (23, true)⟩,
      ⟨some 27, (.move (.tmp 2)), 3, some (23, true)⟩,
      ⟨some 28, (.call ⟨(.value (.func 182)), #[(.tmp 26), (.tmp 27)], #[23, 3]⟩), 3, some (23, true)⟩,
      ⟨some 29, (.call ⟨(.value (.func 181)), #[(.tmp 25), (.tmp 28)], #[23, 3]⟩), 4, some (23, true)⟩,
      ⟨some 30, (.pick (.tmp 23) (.tmp 29) (.const (.bool false))), 4, none⟩,
      ⟨some 6, (.assign (.tmp 30)), 4, none⟩] [(0, 1), (0, 2), (5, 7), (6, 7), (5, 8), (6, 8), (7, 8), (5, 9), (6, 9), (7, 9), (5, 10), (6, 10), (14, 16), (15, 16), (14, 17), (15, 17), (16, 17), (14, 18), (15, 18)])
    .ret)
    .skip))
    (.seq (.draw [] [⟨some 31, (.move (.tmp 2)), 3, none⟩,
      ⟨some 32, (.move (.tmp 1)), 23, none⟩,
      ⟨some 33, (.call ⟨(.builtin .len), #[(.tmp 32)], #[23]⟩), 3, none⟩,
      ⟨some 34, (.binOp .sub 3 (.tmp 33) (.const (.int .i64 1)) 3), 3, none⟩,
      ⟨some 35, (.call ⟨(.value (.func 171)), #[(.tmp 31), (.const (.int .i64 0)), (.tmp 34)], #[3, 3, 3]⟩), 4, none⟩,
      ⟨some 36, (.move (.tmp 35)), 4, none⟩,
      ⟨some 37, (.move (.tmp 1)), 23, some (36, true)⟩,
      ⟨some 38, (.move (.tmp 2)), 3, some (36, true)⟩,
      ⟨some 39, (.indexAddr 23 (.tmp 37) (.tmp 38)), 0, some (36, true)⟩,
      ⟨some 40, (.load 3 (.tmp 39)), 3, some (36, true)⟩,
      ⟨some 41, (.fieldAddr 46 (.tmp 3) 0), 0, some (36, true)⟩,
      ⟨some 42, (.load 3 (.tmp 41)), 3, some (36, true)⟩,
      ⟨some 43, (.binOp .eql 3 (.tmp 40) (.tmp 42) 3), 4, some (36, true)⟩,
      ⟨some 44, (.pick (.tmp 36) (.tmp 43) (.const (.bool false))), 4, none⟩,
      ⟨some 45, (.move (.tmp 44)), 4, none⟩,
      ⟨some 46, (.fieldAddr 46 (.tmp 3) 2), 0, some (45, true)⟩,
      ⟨some 47, (.load 23 (.tmp 46)), 23, some (45, true)⟩,
      ⟨some 48, (.move (.tmp 1)), 23, some (45, true)⟩,
      ⟨some 49, (.move (.tmp 2)), 3, some (45, true)⟩,
      ⟨some 50, (.binOp .sub 3 (.tmp 49) (.const (.int .i64 1)) 3), 3, some (45, true)⟩,
      ⟨some 51, (.call ⟨(.value (.func 182)), #[(.tmp 48), (.tmp 50)], #[23, 3]⟩), 3, some (45, true)⟩,
      ⟨some 52, (.call ⟨(.value (.func 181)), #[(.tmp 47), (.tmp 51)], #[23, 3]⟩), 4, some (45, true)⟩,
      ⟨some 53, (.pick (.tmp 45) (.tmp 52) (.const (.bool false))), 4, none⟩,
      ⟨some 54, (.move (.tmp 53)), 4, none⟩,
      ⟨some 55, (.fieldAddr 46 (.tmp 3) 3), 0, some (54, true)⟩,
      ⟨some 56, (.load 23 (.tmp 55)), 23, some (54, true)⟩,
      ⟨some 57, (.move (.tmp 1)), 23, some (54, true)⟩,
      ⟨some 58, (.move (.tmp 2)), 3, some (54, true)⟩,
      ⟨some 59, (.binOp .add 3 (.tmp 58) (.const (.int .i64 1)) 3), 3, some (54, true)⟩,
      ⟨some 60, (.call ⟨(.value (.func 182)), #[(.tmp 57), (.tmp 59)], #[23, 3]⟩), 3, some (54, true)⟩,
      ⟨some 61, (.call ⟨(.value (.func 181)), #[(.tmp 56), (.tmp 60)], #[23, 3]⟩), 4, some (54, true)⟩,
      ⟨some 62, (.pick (.tmp 54) (.tmp 61) (.const (.bool false))), 4, none⟩,
      ⟨some 6, (.assign (.tmp 62)), 4, none⟩] [(0, 1), (0, 2), (0, 3), (6, 7), (6, 10), (7, 10), (8, 10), (9, 10), (6, 11), (7, 11), (8, 11), (9, 11), (15, 17), (16, 17), (15, 18), (16, 18), (17, 18), (15, 19), (16, 19), (17, 19), (15, 20), (16, 20), (24, 26), (25, 26), (24, 27), (25, 27), (26, 27), (24, 28), (25, 28), (26, 28), (24, 29), (25, 29)])
    .ret)))
theorem C163 {args : List AV} {r : AV} (hn : args.length ≤ 63) (h : vc Tryz.prog T [] A163 (Fin T [(.tmp 6)] r) ⟨envOf 0 args, []⟩) : CallP Tryz.prog 163 args r :=
  callP_of tok mixed Tryz.func163 (by kernel_rfl) (by kernel_rfl) (by kernel_rfl : Tryz.f163.ntmps = 63) (by kernel_rfl : Tryz.f163.body.bind (strip 63 (fun _ => [])) = some A163) hn h
def A164 : ACode :=
  (.seq (.reg [] [⟨some 2, (.assign (.const (.slice none 0 0))), 23, none⟩,
      ⟨some 3, (.assign (.const (.int .i64 0))), 28, none⟩])
    (.seq (.seq (.reg [] [⟨some 4, (.move (.tmp 0)), 23, none⟩,
      ⟨some 5, (.call ⟨(.builtin .len), #[(.tmp 4)], #[23]⟩), 3, none⟩,
      ⟨some 6, (.binOp .gtr 3 (.tmp 5) (.const (.int .i64 8)) 3), 4, none⟩])
    (.cond (.tmp 6)
    (.seq (.reg [] [⟨some 2, (.assign (.const (.slice none 0 0))), 23, none⟩,
      ⟨some 3, (.assign (.const (.int .i64 3))), 28, none⟩])
    .ret)
    .skip))
    (.seq (.reg [] [⟨some 7, (.move (.tmp 0)), 23, none⟩,
      ⟨some 2, (.assign (.tmp 7)), 23, none⟩,
      ⟨some 3, (.assign (.const (.int .i64 0))), 28, none⟩])
    .ret)))
theorem C164 {args : List AV} {r : AV} (hn : args.length ≤ 8) (h : vc Tryz.prog T [] A164 (Fin T [(.tmp 2), (.tmp 3)] r) ⟨envOf 0 args, []⟩) : CallP Tryz.prog 164 args r :=
  callP_of tok mixed Tryz.func164 (by kernel_rfl) (by kernel_rfl) (by kernel_rfl : Tryz.f164.ntmps = 8) (by kernel_rfl : Tryz.f164.body.bind (strip 8 (fun _ => [])) = some A164) hn h
def A165 : ACode :=
  (.seq (.reg [] [⟨some 3, (.box 46 (.tmp 0)), 0, none⟩,
      ⟨some 6, (.assign (.const (.slice none 0 0))), 23, none⟩])
    (.seq (.reg [] [⟨some 8, (.buildSlice 23 0 #[]), 23, none⟩,
      ⟨some 9, (.move (.tmp 1)), 23, none⟩,
      ⟨some 10, (.move (.tmp 2)), 3, none⟩,
      ⟨some 11, (.slice 23 (.tmp 9) none (some (.tmp 10)) none), 23, none⟩,
      ⟨some 12, (.call ⟨(.builtin .append), #[(.tmp 8), (.tmp 11)], #[23, 23]⟩), 23, none⟩,
      ⟨some 7, (.assign (.tmp 12)), 23, none⟩])
    (.seq (.reg [] [⟨some 13, (.move (.tmp 7)), 23, none⟩,
      ⟨some 14, (.fieldAddr 46 (.tmp 3) 1), 0, none⟩,
      ⟨some 15, (.load 23 (.tmp 14)), 23, none⟩,
      ⟨some 16, (.call ⟨(.builtin .append), #[(.tmp 13), (.tmp 15)], #[23, 23]⟩), 23, none⟩,
      ⟨some 7, (.assign (.tmp 16)), 23, none⟩])
    (.seq (.seq (.reg [] [⟨some 17, (.fieldAddr 46 (.tmp 3) 0), 0, none⟩,
      ⟨some 18, (.load 3 (.tmp 17)), 3, none⟩,
      ⟨some 19, (.binOp .geq 3 (.tmp 18) (.const (.int .i64 0)) 3), 4, none⟩])
    (.cond (.tmp 19)
    (.reg [] [⟨some 20, (.move (.tmp 2)), 3, none⟩,
      ⟨some 21, (.binOp .add 3 (.tmp 20) (.const (.int .i64 1)) 3), 3, none⟩,
      ⟨some 2, (.assign (.tmp 21)), 3, none⟩])
    .skip))
    (.seq (.reg [] [⟨some 22, (.move (.tmp 7)), 23, none⟩,
      ⟨some 23, (.move (.tmp 1)), 23, none⟩,
      ⟨some 24, (.move (.tmp 2)), 3, none⟩,
      ⟨some 25, (.slice 23 (.tmp 23) (some (.tmp 24)) none none), 23, none⟩,
      ⟨some 26, (.call ⟨(.builtin .append), #[(.tmp 22), (.tmp 25)], #[23, 23]⟩), 23, none⟩,
      ⟨some 6, (.assign (.tmp 26)), 23, none⟩])
    .ret)))))
theorem C165 {args : List AV} {r : AV} (hn : args.length ≤ 27) (h : vc Tryz.prog T [] A165 (Fin T [(.tmp 6)] r) ⟨envOf 0 args, []⟩) : CallP Tryz.prog 165 args r :=
  callP_of tok mixed Tryz.func165 (by kernel_rfl) (by kernel_rfl) (by kernel_rfl : Tryz.f165.ntmps = 27) (by kernel_rfl : Tryz.f165.body.bind (strip 27 (fun _ => [])) = some A165) hn h
def A181 : ACode :=
  (.seq (.reg [] [⟨some 4, (.assign (.const (.bool false))), 4, none⟩])
    (.seq (.reg [] [⟨some 5, (.move (.tmp 0)), 23, none⟩,
      ⟨some 6, (.call ⟨(.builtin .len), #[(.tmp 5)], #[23]⟩), 3, none⟩,
      ⟨some 7, (.binOp .eql 3 (.tmp 6) (.const (.int .i64 0)) 3), 4, none⟩,
      ⟨some 8, (.move (.tmp 7)), 4, none⟩,
      ⟨some 9, (.move (.tmp 0)), 23, some (8, false)⟩,
      ⟨some 10, (.move (.tmp 1)), 3, some (8, false)⟩,
      ⟨some 11, (.call ⟨(.value (.func 195)), #[(.tmp 9), (.tmp 10)], #[23, 3]⟩), 4, some (8, false)⟩,
      ⟨some 12, (.pick (.tmp 8) (.const (.bool true)) (.tmp 11)), 4, none⟩,
      ⟨some 4, (.assign (.tmp 12)), 4, none⟩])
    .ret))
theorem C181 {args : List AV} {r : AV} (hn : args.length ≤ 13) (h : vc Tryz.prog T [] A181 (Fin T [(.tmp 4)] r) ⟨envOf 0 args, []⟩) : CallP Tryz.prog 181 args r :=
  callP_of tok mixed Tryz.func181 (by kernel_rfl) (by kernel_rfl) (by kernel_rfl : Tryz.f181.ntmps = 13) (by kernel_rfl : Tryz.f181.body.bind (strip 13 (fun _ => [])) = some A181) hn h
def A182 : ACode :=
  (.seq (.reg [] [⟨some 4, (.assign (.const (.int .i64 0))), 3, none⟩])
    (.seq (.seq (.reg [] [⟨some 5, (.move (.tmp 1)), 3, none⟩,
      ⟨some 6, (.move (.tmp 0)), 23, none⟩,
      ⟨some 7, (.call ⟨(.builtin .len), #[(.tmp 6)], #[23]⟩), 3, none⟩,
      ⟨some 8, (.binOp .sub 3 (.tmp 7) (.const (.int .i64 1)) 3), 3, none⟩,
      ⟨some 9, (.call ⟨(.value (.func 171)), #[(.tmp 5), (.const (.int .i64 0)), (.tmp 8)], #[3, 3, 3]⟩), 4, none⟩])
    (.cond (.tmp 9)
    (.seq (.reg [] [⟨some 10, (.move (.tmp 0)), 23, none⟩,
      ⟨some 11, (.move (.tmp 1)), 3, none⟩,
      ⟨some 12, (.indexAddr 23 (.tmp 10) (.tmp 11)), 0, none⟩,
      ⟨some 13, (.load 3 (.tmp 12)), 3, none⟩,
      ⟨some 4, (.assign (.tmp 13)), 3, none⟩])
    .ret)
    .skip))
    (.seq (.reg [] [⟨some 4, (.assign (.const (.int .i64 (-1)))), 3, none⟩])
    .ret)))
theorem C182 {args : List AV} {r : AV} (hn : args.length ≤ 14) (h : vc Tryz.prog T [] A182 (Fin T [(.tmp 4)] r) ⟨envOf 0 args, []⟩) : CallP Tryz.prog 182 args r :=
  callP_of tok mixed Tryz.func182 (by kernel_rfl) (by kernel_rfl) (by kernel_rfl : Tryz.f182.ntmps = 14) (by kernel_rfl : Tryz.f182.body.bind (strip 14 (fun _ => [])) = some A182) hn h
def A195 : ACode :=
  (.seq (.reg [] [⟨some 4, (.assign (.const (.bool false))), 4, none⟩])
    (.seq (.seq (.reg [] [⟨some 5, (.assign (.const (.int .i64 0))), 3, none⟩])
    (.block 0 (.loop (.seq (.seq (.reg [] [⟨some 6, (.move (.tmp 5)), 3, none⟩,
      ⟨some 7, (.move (.tmp 0)), 23, none⟩,
      ⟨some 8, (.call ⟨(.builtin .len), #[(.tmp 7)], #[23]⟩), 3, none⟩,
      ⟨some 9, (.binOp .lss 3 (.tmp 6) (.tmp 8) 3), 4, none⟩])
    (.cond (.tmp 9)
    .skip
    (.exit 0)))
    (.seq (.block 1 (.seq (.reg [] [⟨some 12, (.move (.tmp 0)), 23, none⟩,
      ⟨some 13, (.move (.tmp 5)), 3, none⟩,
      ⟨some 14, (.indexAddr 23 (.tmp 12) (.tmp 13)), 0, none⟩,
      ⟨some 15, (.load 3 (.tmp 14)), 3, none⟩,
      ⟨some 16, (.move (.tmp 1)), 3, none⟩,
      ⟨some 17, (.binOp .eql 3 (.tmp 15) (.tmp 16) 3), 4, none⟩])
    (.cond (.tmp 17)
    (.seq (.reg [] [⟨some 4, (.assign (.const (.bool true))), 4, none⟩])
    .ret)
    .skip)))
    (.reg [] [⟨some 10, (.move (.tmp 5)), 3, none⟩,
      ⟨some 11, (.binOp .add 3 (.tmp 10) (.const (.int .i64 1)) 3), 3, none⟩,
      ⟨some 5, (.assign (.tmp 11)), 3, none⟩]))))))
    (.seq (.reg [] [⟨some 4, (.assign (.const (.bool false))), 4, none⟩])
    .ret)))
theorem C195 {args : List AV} {r : AV} (hn : args.length ≤ 18) (h : vc Tryz.prog T [] A195 (Fin T [(.tmp 4)] r) ⟨envOf 0 args, []⟩) : CallP Tryz.prog 195 args r :=
  callP_of tok mixed Tryz.func195 (by kernel_rfl) (by kernel_rfl) (by kernel_rfl : Tryz.f195.ntmps = 18) (by kernel_rfl : Tryz.f195.body.bind (strip 18 (fun _ => [])) = some A195) hn h

end Go.Proofs.YtkhddecnllcaiaaGreat
end
