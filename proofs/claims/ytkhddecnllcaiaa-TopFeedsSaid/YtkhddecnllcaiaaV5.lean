/- Part 5 of the proof: the value layer and the contracts of the functions that the statement reaches; proved without conditions beyond those each theorem states. -/
import Derived.Test.YtkhddecnllcaiaaProg
import Derived.Test.YtkhddecnllcaiaaV4
set_option linter.unusedSimpArgs false
set_option linter.unusedVariables false

section
/- The table of types of the cut, and that it is right. (written by types.py) -/
set_option maxRecDepth 8000
namespace Go.Proofs.Ytkhddecnllcaiaa
open Go.Abs

def rows : List (Nat × TI) := [
  (2, ⟨1, 8, .int .i64, .raw (.int .i64 0), false⟩),
  (3, ⟨1, 8, .int .i64, .raw (.int .i64 0), false⟩),
  (4, ⟨1, 1, .bool, .raw (.bool false), false⟩),
  (5, ⟨1, 1, .int .u8, .raw (.int .u8 0), false⟩),
  (9, ⟨1, 16, .str, .raw (.string ByteArray.empty), false⟩),
  (12, ⟨1, 8, .int .u64, .raw (.int .u64 0), false⟩),
  (13, ⟨2, 24, .struct [(0, 1, 9), (1, 1, 12)], .agg [.raw (.string ByteArray.empty), .raw (.int .u64 0)], false⟩),
  (21, ⟨1, 4, .int .i32, .raw (.int .i32 0), false⟩),
  (22, ⟨1, 24, .slice 3, .seq 1 [] true, false⟩),
  (23, ⟨4, 80, .struct [(0, 1, 3), (1, 1, 22), (2, 1, 22), (3, 1, 22)], .agg [.raw (.int .i64 0), .seq 1 [] true, .seq 1 [] true, .seq 1 [] true], false⟩),
  (24, ⟨4, 80, .struct [(0, 1, 3), (1, 1, 22), (2, 1, 22), (3, 1, 22)], .agg [.raw (.int .i64 0), .seq 1 [] true, .seq 1 [] true, .seq 1 [] true], false⟩),
  (25, ⟨8, 160, .struct [(0, 4, 24), (4, 4, 24)], .agg [.raw (.int .i64 0), .seq 1 [] true, .seq 1 [] true, .seq 1 [] true, .raw (.int .i64 0), .seq 1 [] true, .seq 1 [] true, .seq 1 [] true], false⟩),
  (26, ⟨8, 160, .struct [(0, 4, 24), (4, 4, 24)], .agg [.raw (.int .i64 0), .seq 1 [] true, .seq 1 [] true, .seq 1 [] true, .raw (.int .i64 0), .seq 1 [] true, .seq 1 [] true, .seq 1 [] true], false⟩),
  (27, ⟨1, 8, .int .i64, .raw (.int .i64 0), false⟩),
  (41, ⟨1, 24, .slice 24, .seq 4 [] true, false⟩),
  (45, ⟨1, 24, .slice 22, .seq 1 [] true, false⟩),
  (54, ⟨1, 8, .int .u64, .raw (.int .u64 0), false⟩),
  (55, ⟨1, 24, .slice 108, .seq 2 [] true, false⟩),
  (75, ⟨7, 7, .array 7 4, .agg [.raw (.bool false), .raw (.bool false), .raw (.bool false), .raw (.bool false), .raw (.bool false), .raw (.bool false), .raw (.bool false)], true⟩),
  (76, ⟨7, 7, .array 7 4, .agg [.raw (.bool false), .raw (.bool false), .raw (.bool false), .raw (.bool false), .raw (.bool false), .raw (.bool false), .raw (.bool false)], true⟩),
  (86, ⟨1, 8, .flat, .raw (.pointer none), false⟩),
  (91, ⟨1, 8, .map 9 3 .str, .raw (.map none), false⟩),
  (92, ⟨5, 104, .struct [(0, 1, 41), (1, 1, 45), (2, 1, 91), (3, 1, 22), (4, 1, 55)], .agg [.seq 4 [] true, .seq 1 [] true, .raw (.map none), .seq 1 [] true, .seq 2 [] true], false⟩),
  (93, ⟨5, 104, .struct [(0, 1, 41), (1, 1, 45), (2, 1, 91), (3, 1, 22), (4, 1, 55)], .agg [.seq 4 [] true, .seq 1 [] true, .raw (.map none), .seq 1 [] true, .seq 2 [] true], false⟩),
  (98, ⟨1, 24, .slice 99, .seq 1 [] true, false⟩),
  (99, ⟨1, 24, .slice 4, .seq 1 [] true, false⟩),
  (103, ⟨1, 8, .flat, .raw .nilFunc, false⟩),
  (105, ⟨1, 24, .slice 114, .seq 3 [] true, false⟩),
  (107, ⟨2, 16, .struct [(0, 1, 3), (1, 1, 3)], .agg [.raw (.int .i64 0), .raw (.int .i64 0)], true⟩),
  (108, ⟨2, 16, .struct [(0, 1, 3), (1, 1, 3)], .agg [.raw (.int .i64 0), .raw (.int .i64 0)], true⟩),
  (113, ⟨3, 40, .struct [(0, 2, 108), (2, 1, 22)], .agg [.raw (.int .i64 0), .raw (.int .i64 0), .seq 1 [] true], false⟩),
  (114, ⟨3, 40, .struct [(0, 2, 108), (2, 1, 22)], .agg [.raw (.int .i64 0), .raw (.int .i64 0), .seq 1 [] true], false⟩),
  (118, ⟨3, 72, .struct [(0, 1, 45), (1, 1, 45), (2, 1, 22)], .agg [.seq 1 [] true, .seq 1 [] true, .seq 1 [] true], false⟩),
  (119, ⟨3, 72, .struct [(0, 1, 45), (1, 1, 45), (2, 1, 22)], .agg [.seq 1 [] true, .seq 1 [] true, .seq 1 [] true], false⟩),
  (133, ⟨1, 8, .flat, .raw .nilFunc, false⟩),
  (136, ⟨1, 24, .slice 5, .seq 1 [] true, false⟩),
  (137, ⟨1, 8, .flat, .raw .nilFunc, false⟩),
  (141, ⟨1, 8, .flat, .raw .nilFunc, false⟩),
  (149, ⟨1, 4, .int .u32, .raw (.int .u32 0), false⟩),
  (152, ⟨1, 8, .int .u64, .raw (.int .u64 0), false⟩),
  (156, ⟨1, 8, .int .i64, .raw (.int .i64 0), false⟩),
  (167, ⟨1, 8, .int .u64, .raw (.int .u64 0), false⟩),
  (171, ⟨1, 8, .flat, .raw (.pointer none), false⟩),
  (173, ⟨1, 8, .flat, .raw (.pointer none), false⟩),
  (187, ⟨1, 8, .flat, .raw (.pointer none), false⟩)]
def T : TT := findT rows
theorem T_2 : T 2 = some ⟨1, 8, .int .i64, .raw (.int .i64 0), false⟩ := by kernel_rfl
theorem T_3 : T 3 = some ⟨1, 8, .int .i64, .raw (.int .i64 0), false⟩ := by kernel_rfl
theorem T_4 : T 4 = some ⟨1, 1, .bool, .raw (.bool false), false⟩ := by kernel_rfl
theorem T_5 : T 5 = some ⟨1, 1, .int .u8, .raw (.int .u8 0), false⟩ := by kernel_rfl
theorem T_9 : T 9 = some ⟨1, 16, .str, .raw (.string ByteArray.empty), false⟩ := by kernel_rfl
theorem T_12 : T 12 = some ⟨1, 8, .int .u64, .raw (.int .u64 0), false⟩ := by kernel_rfl
theorem T_13 : T 13 = some ⟨2, 24, .struct [(0, 1, 9), (1, 1, 12)], .agg [.raw (.string ByteArray.empty), .raw (.int .u64 0)], false⟩ := by kernel_rfl
theorem T_21 : T 21 = some ⟨1, 4, .int .i32, .raw (.int .i32 0), false⟩ := by kernel_rfl
theorem T_22 : T 22 = some ⟨1, 24, .slice 3, .seq 1 [] true, false⟩ := by kernel_rfl
theorem T_23 : T 23 = some ⟨4, 80, .struct [(0, 1, 3), (1, 1, 22), (2, 1, 22), (3, 1, 22)], .agg [.raw (.int .i64 0), .seq 1 [] true, .seq 1 [] true, .seq 1 [] true], false⟩ := by kernel_rfl
theorem T_24 : T 24 = some ⟨4, 80, .struct [(0, 1, 3), (1, 1, 22), (2, 1, 22), (3, 1, 22)], .agg [.raw (.int .i64 0), .seq 1 [] true, .seq 1 [] true, .seq 1 [] true], false⟩ := by kernel_rfl
theorem T_25 : T 25 = some ⟨8, 160, .struct [(0, 4, 24), (4, 4, 24)], .agg [.raw (.int .i64 0), .seq 1 [] true, .seq 1 [] true, .seq 1 [] true, .raw (.int .i64 0), .seq 1 [] true, .seq 1 [] true, .seq 1 [] true], false⟩ := by kernel_rfl
theorem T_26 : T 26 = some ⟨8, 160, .struct [(0, 4, 24), (4, 4, 24)], .agg [.raw (.int .i64 0), .seq 1 [] true, .seq 1 [] true, .seq 1 [] true, .raw (.int .i64 0), .seq 1 [] true, .seq 1 [] true, .seq 1 [] true], false⟩ := by kernel_rfl
theorem T_27 : T 27 = some ⟨1, 8, .int .i64, .raw (.int .i64 0), false⟩ := by kernel_rfl
theorem T_41 : T 41 = some ⟨1, 24, .slice 24, .seq 4 [] true, false⟩ := by kernel_rfl
theorem T_45 : T 45 = some ⟨1, 24, .slice 22, .seq 1 [] true, false⟩ := by kernel_rfl
theorem T_54 : T 54 = some ⟨1, 8, .int .u64, .raw (.int .u64 0), false⟩ := by kernel_rfl
theorem T_55 : T 55 = some ⟨1, 24, .slice 108, .seq 2 [] true, false⟩ := by kernel_rfl
theorem T_75 : T 75 = some ⟨7, 7, .array 7 4, .agg [.raw (.bool false), .raw (.bool false), .raw (.bool false), .raw (.bool false), .raw (.bool false), .raw (.bool false), .raw (.bool false)], true⟩ := by kernel_rfl
theorem T_76 : T 76 = some ⟨7, 7, .array 7 4, .agg [.raw (.bool false), .raw (.bool false), .raw (.bool false), .raw (.bool false), .raw (.bool false), .raw (.bool false), .raw (.bool false)], true⟩ := by kernel_rfl
theorem T_86 : T 86 = some ⟨1, 8, .flat, .raw (.pointer none), false⟩ := by kernel_rfl
theorem T_91 : T 91 = some ⟨1, 8, .map 9 3 .str, .raw (.map none), false⟩ := by kernel_rfl
theorem T_92 : T 92 = some ⟨5, 104, .struct [(0, 1, 41), (1, 1, 45), (2, 1, 91), (3, 1, 22), (4, 1, 55)], .agg [.seq 4 [] true, .seq 1 [] true, .raw (.map none), .seq 1 [] true, .seq 2 [] true], false⟩ := by kernel_rfl
theorem T_93 : T 93 = some ⟨5, 104, .struct [(0, 1, 41), (1, 1, 45), (2, 1, 91), (3, 1, 22), (4, 1, 55)], .agg [.seq 4 [] true, .seq 1 [] true, .raw (.map none), .seq 1 [] true, .seq 2 [] true], false⟩ := by kernel_rfl
theorem T_98 : T 98 = some ⟨1, 24, .slice 99, .seq 1 [] true, false⟩ := by kernel_rfl
theorem T_99 : T 99 = some ⟨1, 24, .slice 4, .seq 1 [] true, false⟩ := by kernel_rfl
theorem T_105 : T 105 = some ⟨1, 24, .slice 114, .seq 3 [] true, false⟩ := by kernel_rfl
theorem T_107 : T 107 = some ⟨2, 16, .struct [(0, 1, 3), (1, 1, 3)], .agg [.raw (.int .i64 0), .raw (.int .i64 0)], true⟩ := by kernel_rfl
theorem T_108 : T 108 = some ⟨2, 16, .struct [(0, 1, 3), (1, 1, 3)], .agg [.raw (.int .i64 0), .raw (.int .i64 0)], true⟩ := by kernel_rfl
theorem T_113 : T 113 = some ⟨3, 40, .struct [(0, 2, 108), (2, 1, 22)], .agg [.raw (.int .i64 0), .raw (.int .i64 0), .seq 1 [] true], false⟩ := by kernel_rfl
theorem T_114 : T 114 = some ⟨3, 40, .struct [(0, 2, 108), (2, 1, 22)], .agg [.raw (.int .i64 0), .raw (.int .i64 0), .seq 1 [] true], false⟩ := by kernel_rfl
theorem T_118 : T 118 = some ⟨3, 72, .struct [(0, 1, 45), (1, 1, 45), (2, 1, 22)], .agg [.seq 1 [] true, .seq 1 [] true, .seq 1 [] true], false⟩ := by kernel_rfl
theorem T_119 : T 119 = some ⟨3, 72, .struct [(0, 1, 45), (1, 1, 45), (2, 1, 22)], .agg [.seq 1 [] true, .seq 1 [] true, .seq 1 [] true], false⟩ := by kernel_rfl
theorem T_133 : T 133 = some ⟨1, 8, .flat, .raw .nilFunc, false⟩ := by kernel_rfl
theorem T_136 : T 136 = some ⟨1, 24, .slice 5, .seq 1 [] true, false⟩ := by kernel_rfl
theorem T_149 : T 149 = some ⟨1, 4, .int .u32, .raw (.int .u32 0), false⟩ := by kernel_rfl
theorem T_152 : T 152 = some ⟨1, 8, .int .u64, .raw (.int .u64 0), false⟩ := by kernel_rfl
theorem T_156 : T 156 = some ⟨1, 8, .int .i64, .raw (.int .i64 0), false⟩ := by kernel_rfl
theorem T_167 : T 167 = some ⟨1, 8, .int .u64, .raw (.int .u64 0), false⟩ := by kernel_rfl
theorem T_171 : T 171 = some ⟨1, 8, .flat, .raw (.pointer none), false⟩ := by kernel_rfl
theorem T_173 : T 173 = some ⟨1, 8, .flat, .raw (.pointer none), false⟩ := by kernel_rfl
theorem T_187 : T 187 = some ⟨1, 8, .flat, .raw (.pointer none), false⟩ := by kernel_rfl

theorem tokRows : (rows.all fun r => rowOK Try.prog r.1 r.2) = true := by kernel_rfl
theorem mixed : Try.prog.follows .mixedOrders = true := by kernel_rfl
theorem eqRows : ∀ r ∈ rows.filter fun r => r.2.eq, EqR Try.prog r.1 r.2.zero := by
  intro r hr
  have he : rows.filter (fun r => r.2.eq) = [(75, ⟨7, 7, .array 7 4, .agg [.raw (.bool false), .raw (.bool false), .raw (.bool false), .raw (.bool false), .raw (.bool false), .raw (.bool false), .raw (.bool false)], true⟩), (76, ⟨7, 7, .array 7 4, .agg [.raw (.bool false), .raw (.bool false), .raw (.bool false), .raw (.bool false), .raw (.bool false), .raw (.bool false), .raw (.bool false)], true⟩), (107, ⟨2, 16, .struct [(0, 1, 3), (1, 1, 3)], .agg [.raw (.int .i64 0), .raw (.int .i64 0)], true⟩), (108, ⟨2, 16, .struct [(0, 1, 3), (1, 1, 3)], .agg [.raw (.int .i64 0), .raw (.int .i64 0)], true⟩)] := rfl
  rw [he] at hr
  simp only [List.mem_cons, List.not_mem_nil, or_false] at hr
  rcases hr with rfl | rfl | rfl | rfl
  · exact eqR_arr7 Try.underlying75 Try.underlying4 (fun w => Try.sizeOf4 w) Try.eqGuardType75
  · exact eqR_arr7 Try.underlying76 Try.underlying4 (fun w => Try.sizeOf4 w) Try.eqGuardType76
  · exact eqR_struct Try.underlying107 Try.stoodInHeld107 Try.eqGuardType107 (by kernel_rfl)
  · exact eqR_struct Try.underlying108 Try.stoodInHeld108 Try.eqGuardType108 (by kernel_rfl)
theorem tok : TOK Try.prog T := tok_of rows tokRows fun r hr he => eqRows r (List.mem_filter.2 ⟨hr, he⟩)
attribute [irreducible] T
end Go.Proofs.Ytkhddecnllcaiaa
end

section
/- Functions of the cut as the value layer reads them. (written by gen.py) -/
set_option maxRecDepth 20000
namespace Go.Proofs.Ytkhddecnllcaiaa
open Go.Abs Go

def A71 : ACode :=
  (.seq (.reg [] [⟨some 6, (.assign (.const (.bool false))), 4, none⟩])
    (.seq (.reg [] [⟨some 7, (.move (.tmp 0)), 3, none⟩,
      ⟨some 8, (.move (.tmp 1)), 3, none⟩,
      ⟨some 9, (.binOp .geq 3 (.tmp 7) (.tmp 8) 3), 4, none⟩,
      ⟨some 10, (.move (.tmp 9)), 4, none⟩,
      ⟨some 11, (.move (.tmp 0)), 3, some (10, true)⟩,
      ⟨some 12, (.move (.tmp 2)), 3, some (10, true)⟩,
      ⟨some 13, (.binOp .leq 3 (.tmp 11) (.tmp 12) 3), 4, some (10, true)⟩,
      ⟨some 14, (.pick (.tmp 10) (.tmp 13) (.const (.bool false))), 4, none⟩,
      ⟨some 6, (.assign (.tmp 14)), 4, none⟩])
    .ret))
theorem C71 {args : List AV} {r : AV} (hn : args.length ≤ 15) (h : vc Try.prog T [] A71 (Fin T [(.tmp 6)] r) ⟨envOf 0 args, []⟩) : CallP Try.prog 71 args r :=
  callP_of tok mixed Try.func71 (by kernel_rfl) (by kernel_rfl) (by kernel_rfl : Try.f71.ntmps = 15) (by kernel_rfl : Try.f71.body.bind (strip 15 (fun _ => [])) = some A71) hn h
def A50 : ACode :=
  (.seq (.reg [] [⟨some 2, (.assign (.const (.slice none 0 0))), 22, none⟩])
    (.seq (.seq (.reg [] [⟨some 3, (.move (.tmp 0)), 22, none⟩,
      ⟨some 4, (.binOp .eql 22 (.tmp 3) (.const (.slice none 0 0)) 22), 4, none⟩])
    (.cond (.tmp 4)
    (.seq (.reg [] [⟨some 2, (.assign (.const (.slice none 0 0))), 22, none⟩])
    .ret)
    .skip))
    (.seq (.reg [] [⟨some 5, (.buildSlice 22 0 #[]), 22, none⟩,
      ⟨some 6, (.move (.tmp 0)), 22, none⟩,
      ⟨some 7, (.call ⟨(.builtin .append), #[(.tmp 5), (.tmp 6)], #[22, 22]⟩), 22, none⟩,
      ⟨some 2, (.assign (.tmp 7)), 22, none⟩])
    .ret)))
theorem CO50 {args : List AV} {sz : Nat} {els : List AV} (hn : args.length ≤ 8) (h : vc Try.prog T [] A50 (FinO [(.tmp 2)] sz els) ⟨envOf 0 args, []⟩) : CallO Try.prog 50 args sz els :=
  callO_of tok mixed Try.func50 (by kernel_rfl) (by kernel_rfl) (by kernel_rfl : Try.f50.ntmps = 8) (by kernel_rfl : Try.f50.body.bind (strip 8 (fun _ => [])) = some A50) hn h
def A110 : ACode :=
  (.seq (.reg [] [⟨some 4, (.assign (.const (.slice none 0 0))), 22, none⟩])
    (.seq (.seq (.reg [] [⟨some 5, (.move (.tmp 1)), 3, none⟩,
      ⟨some 6, (.binOp .lss 3 (.tmp 5) (.const (.int .i64 0)) 3), 4, none⟩])
    (.cond (.tmp 6)
    (.reg [] [⟨some 7, (.makeInterface 9 (.const (.string ⟨#[99, 97, 110, 110, 111, 116, 32, 98, 101, 32, 110, 101, 103, 97, 116, 105, 118, 101]⟩))), 20, none⟩,
      ⟨none, (.panic (.tmp 7)), 0, none⟩])
    .skip))
    (.seq (.seq (.reg [] [⟨some 8, (.move (.tmp 1)), 3, none⟩,
      ⟨some 9, (.move (.tmp 0)), 22, none⟩,
      ⟨some 10, (.call ⟨(.builtin .cap), #[(.tmp 9)], #[22]⟩), 3, none⟩,
      ⟨some 11, (.move (.tmp 0)), 22, none⟩,
      ⟨some 12, (.call ⟨(.builtin .len), #[(.tmp 11)], #[22]⟩), 3, none⟩,
      ⟨some 13, (.binOp .sub 3 (.tmp 10) (.tmp 12) 3), 3, none⟩,
      ⟨some 14, (.binOp .sub 3 (.tmp 8) (.tmp 13) 3), 3, none⟩,
      ⟨some 1, (.assign (.tmp 14)), 3, none⟩])
    (.seq (.reg [] [⟨some 15, (.move (.tmp 1)), 3, none⟩,
      ⟨some 16, (.binOp .gtr 3 (.tmp 15) (.const (.int .i64 0)) 3), 4, none⟩])
    (.cond (.tmp 16)
    (.reg [] [⟨some 17, (.move (.tmp 0)), 22, none⟩,
      ⟨some 18, (.move (.tmp 0)), 22, none⟩,
      ⟨some 19, (.call ⟨(.builtin .cap), #[(.tmp 18)], #[22]⟩), 3, none⟩,
      ⟨some 20, (.slice 22 (.tmp 17) none (some (.tmp 19)) none), 22, none⟩,
      ⟨some 21, (.move (.tmp 1)), 3, none⟩,
      ⟨some 22, (.call ⟨(.builtin .append), #[(.tmp 20), (.tmp 21)], #[22, 3]⟩), 22, none⟩,
      ⟨some 23, (.move (.tmp 0)), 22, none⟩,
      ⟨some 24, (.call ⟨(.builtin .len), #[(.tmp 23)], #[22]⟩), 3, none⟩,
      ⟨some 25, (.slice 22 (.tmp 22) none (some (.tmp 24)) none), 22, none⟩,
      ⟨some 0, (.assign (.tmp 25)), 22, none⟩])
    .skip)))
    (.seq (.reg [] [⟨some 26, (.move (.tmp 0)), 22, none⟩,
      ⟨some 4, (.assign (.tmp 26)), 22, none⟩])
    .ret))))
theorem CO110 {args : List AV} {sz : Nat} {els : List AV} (hn : args.length ≤ 27) (h : vc Try.prog T [] A110 (FinO [(.tmp 4)] sz els) ⟨envOf 0 args, []⟩) : CallO Try.prog 110 args sz els :=
  callO_of tok mixed Try.func110 (by kernel_rfl) (by kernel_rfl) (by kernel_rfl : Try.f110.ntmps = 27) (by kernel_rfl : Try.f110.body.bind (strip 27 (fun _ => [])) = some A110) hn h
def A93 : ACode :=
  (.seq (.reg [] [⟨some 2, (.assign (.const (.slice none 0 0))), 22, none⟩])
    (.seq (.reg [] [⟨some 3, (.assign (.const (.int .i64 0))), 3, none⟩])
    (.seq (.seq (.reg [] [⟨some 9, (.move (.tmp 0)), 45, none⟩,
      ⟨some 10, (.call ⟨(.builtin .len), #[(.tmp 9)], #[45]⟩), 3, none⟩,
      ⟨some 11, (.move (.const (.int .i64 0))), 3, none⟩])
    (.block 0 (.loop (.seq (.reg [] [⟨some 12, (.binOp .lss 3 (.tmp 11) (.tmp 10) 3), 0, none⟩])
    (.seq (.cond (.tmp 12)
    .skip
    (.exit 0))
    (.seq (.block 1 (.seq (.reg [] [⟨some 13, (.indexAddr 45 (.tmp 9) (.tmp 11)), 0, none⟩,
      ⟨some 14, (.load 22 (.tmp 13)), 22, none⟩,
      ⟨some 5, (.assign (.tmp 14)), 22, none⟩])
    (.seq (.reg [] [⟨some 15, (.move (.tmp 3)), 3, none⟩,
      ⟨some 16, (.move (.tmp 5)), 22, none⟩,
      ⟨some 17, (.call ⟨(.builtin .len), #[(.tmp 16)], #[22]⟩), 3, none⟩,
      ⟨some 18, (.binOp .add 3 (.tmp 15) (.tmp 17) 3), 3, none⟩,
      ⟨some 3, (.assign (.tmp 18)), 3, none⟩])
    (.seq (.reg [] [⟨some 19, (.move (.tmp 3)), 3, none⟩,
      ⟨some 20, (.binOp .lss 3 (.tmp 19) (.const (.int .i64 0)) 3), 4, none⟩])
    (.cond (.tmp 20)
    (.reg [] [⟨some 21, (.makeInterface 9 (.const (.string ⟨#[108, 101, 110, 32, 111, 117, 116, 32, 111, 102, 32, 114, 97, 110, 103, 101]⟩))), 20, none⟩,
      ⟨none, (.panic (.tmp 21)), 0, none⟩])
    .skip)))))
    (.reg [] [⟨some 22, (.binOp .add 3 (.tmp 11) (.const (.int .i64 1)) 3), 3, none⟩,
      ⟨some 11, (.move (.tmp 22)), 3, none⟩])))))))
    (.seq (.reg [] [⟨some 23, (.move (.tmp 3)), 3, none⟩,
      ⟨some 24, (.call ⟨(.value (.func 110)), #[(.const (.slice none 0 0)), (.tmp 23)], #[22, 3]⟩), 22, none⟩,
      ⟨some 6, (.assign (.tmp 24)), 22, none⟩])
    (.seq (.seq (.reg [] [⟨some 25, (.move (.tmp 0)), 45, none⟩,
      ⟨some 26, (.call ⟨(.builtin .len), #[(.tmp 25)], #[45]⟩), 3, none⟩,
      ⟨some 27, (.move (.const (.int .i64 0))), 3, none⟩])
    (.block 2 (.loop (.seq (.reg [] [⟨some 28, (.binOp .lss 3 (.tmp 27) (.tmp 26) 3), 0, none⟩])
    (.seq (.cond (.tmp 28)
    .skip
    (.exit 2))
    (.seq (.block 3 (.seq (.reg [] [⟨some 29, (.indexAddr 45 (.tmp 25) (.tmp 27)), 0, none⟩,
      ⟨some 30, (.load 22 (.tmp 29)), 22, none⟩,
      ⟨some 8, (.assign (.tmp 30)), 22, none⟩])
    (.reg [] [⟨some 31, (.move (.tmp 6)), 22, none⟩,
      ⟨some 32, (.move (.tmp 8)), 22, none⟩,
      ⟨some 33, (.call ⟨(.builtin .append), #[(.tmp 31), (.tmp 32)], #[22, 22]⟩), 22, none⟩,
      ⟨some 6, (.assign (.tmp 33)), 22, none⟩])))
    (.reg [] [⟨some 34, (.binOp .add 3 (.tmp 27) (.const (.int .i64 1)) 3), 3, none⟩,
      ⟨some 27, (.move (.tmp 34)), 3, none⟩])))))))
    (.seq (.reg [] [⟨some 35, (.move (.tmp 6)), 22, none⟩,
      ⟨some 2, (.assign (.tmp 35)), 22, none⟩])
    .ret))))))
theorem CO93 {args : List AV} {sz : Nat} {els : List AV} (hn : args.length ≤ 36) (h : vc Try.prog T [] A93 (FinO [(.tmp 2)] sz els) ⟨envOf 0 args, []⟩) : CallO Try.prog 93 args sz els :=
  callO_of tok mixed Try.func93 (by kernel_rfl) (by kernel_rfl) (by kernel_rfl : Try.f93.ntmps = 36) (by kernel_rfl : Try.f93.body.bind (strip 36 (fun _ => [])) = some A93) hn h

end Go.Proofs.Ytkhddecnllcaiaa
end

section
/- The values of the program: numbers, words, rules, steps, choices. -/
namespace Go.Proofs.Ytkhddecnllcaiaa
open Go.Abs Go

@[simp] def iv (n : Int) : AV := .raw (.int .i64 n)
@[simp] def bv (b : Bool) : AV := .raw (.bool b)
@[simp] def ints (l : List Int) : AV := .seq 1 (l.map iv) false
structure Rule where
  frm : Int
  to : List Int
  left : List Int
  right : List Int
deriving DecidableEq
instance : Inhabited Rule := ⟨⟨0, [], [], []⟩⟩
@[simp] def ruleV (r : Rule) : AV := .agg [iv r.frm, ints r.to, ints r.left, ints r.right]
@[simp] def rulesV (s : List Rule) : AV := .seq 4 (s.map ruleV) false
structure Step where
  rule : Int
  place : Int
deriving DecidableEq
instance : Inhabited Step := ⟨⟨0, 0⟩⟩
@[simp] def stepV (x : Step) : AV := .agg [iv x.rule, iv x.place]
@[simp] def stepsV (l : List Step) : AV := .seq 2 (l.map stepV) false
structure Choice where
  rule : Int
  place : Int
  ground : Int
deriving DecidableEq
instance : Inhabited Choice := ⟨⟨0, 0, 0⟩⟩
@[simp] def choiceV (x : Choice) : AV := .agg [iv x.rule, iv x.place, iv x.ground]
@[simp] def choicesV (l : List Choice) : AV := .seq 3 (l.map choiceV) false

@[simp] theorem nth_iv (l : List Int) (k : Nat) (h : k < l.length) : nth (l.map iv) k = iv (el l k) := nth_map iv l k h
@[simp] theorem nth_ints (l : List (List Int)) (k : Nat) (h : k < l.length) : nth (l.map ints) k = ints (el l k) := nth_map ints l k h
@[simp] theorem nth_rule (l : List Rule) (k : Nat) (h : k < l.length) : nth (l.map ruleV) k = ruleV (el l k) := nth_map ruleV l k h
@[simp] theorem nth_step (l : List Step) (k : Nat) (h : k < l.length) : nth (l.map stepV) k = stepV (el l k) := nth_map stepV l k h
@[simp] theorem nth_choice (l : List Choice) (k : Nat) (h : k < l.length) : nth (l.map choiceV) k = choiceV (el l k) := nth_map choiceV l k h

@[simp] theorem refsL_bv : ∀ l : List Bool, AV.refsL (l.map bv) = []
  | [] => rfl
  | b :: l => by simp [refsL_bv l]
@[simp] theorem snapL_bv (m : List (Nat × Option Box)) : ∀ l : List Bool, snapL m (l.map bv) = l.map bv
  | [] => rfl
  | b :: l => by simp [snapL_bv m l]
@[simp] theorem snapOKL_bv (m : List (Nat × Option Box)) : ∀ l : List Bool, snapOKL m (l.map bv)
  | [] => trivial
  | b :: l => ⟨trivial, snapOKL_bv m l⟩
@[simp] theorem nth_nil (k : Nat) : nth [] k = .junk := rfl
@[simp] theorem nth_len {α : Type} (f : α → AV) (l : List α) : nth (l.map f) l.length = .junk := by simp [nth, List.getD_eq_getElem?_getD]

attribute [simp] bad T_2 T_3 T_4 T_5 T_41 T_22 T_27 T_107 T_108 T_45 T_23 T_24 T_55 T_105 T_75 T_76 T_113 T_114
end Go.Proofs.Ytkhddecnllcaiaa
end

section
/- Contracts: leaves. -/
namespace Go.Proofs.Ytkhddecnllcaiaa
open Go.Abs Go

end Go.Proofs.Ytkhddecnllcaiaa
end

section
/- Contracts: grounds. -/
namespace Go.Proofs.Ytkhddecnllcaiaa
open Go.Abs Go

end Go.Proofs.Ytkhddecnllcaiaa
end

section
/- Contracts: the library's slices. -/
namespace Go.Proofs.Ytkhddecnllcaiaa
open Go.Abs Go
set_option maxRecDepth 20000
set_option maxHeartbeats 2000000
attribute [local irreducible] PreK CondK CallK CallG CallX LoopK

theorem clone_o (l : List Int) (hl : l.length ≤ 1000) : CallO Try.prog 50 [ints l] 1 (l.map iv) := by
  refine CO50 (by simp) ?_
  simp [A50, nilOK, nilArg, nilOf]
  intro b hb
  refine CondK.intro (fun h => ?_) (fun h => ?_)
  · simp at h
    have h2 := hb h
    simp at h2
    subst h2
    simp
  · simp
    refine PreK.intro (by omega) fun _ => ?_
    simp

theorem grow_o (n : Nat) (hn : n ≤ 1000) : CallO Try.prog 110 [.seq 1 [] true, iv n] 1 [] := by
  refine CO110 (by simp) ?_
  simp [A110]
  refine CondK.intro (fun h => ?_) (fun h => ?_)
  · simp at h
    omega
  · simp
    refine PreK.intro (by omega) fun _ => ?_
    simp
    refine CondK.intro (fun h => ?_) (fun h => ?_)
    · simp at h
      simp
      refine PreK.intro (by omega) fun _ => ?_
      simp
    · simp

theorem concat_o (ls : List (List Int)) (hn : ls.length ≤ 10) (hs : ls.flatten.length ≤ 900) : CallO Try.prog 93 [.seq 1 (ls.map ints) false] 1 (ls.flatten.map iv) := by
  refine CO93 (by simp) ?_
  generalize hR : ls.flatten = R at hs
  simp [A93]
  refine LoopK.by (ι := Nat × Nat) (fun i => ⟨[(11, iv i.1), (10, iv ls.length), (9, .seq 1 (ls.map ints) false), (0, .seq 1 (ls.map ints) false), (3, iv i.2)], []⟩) (fun i => ls.length - i.1)
    (fun i => i.1 ≤ ls.length ∧ i.2 + (ls.drop i.1).flatten.length = R.length) (0, 0) (by simp [← hR]) (by simp) ?_
  intro ⟨i, n⟩ Q' ⟨hi, hc⟩ hq he hr
  dsimp only at hi hc
  simp
  refine CondK.intro (fun h => ?_) (fun h => ?_)
  · simp at h
    rw [drop_cons ls i h, List.flatten_cons, List.length_append] at hc
    simp [h]
    refine PreK.intro (by omega) fun _ => ?_
    simp
    refine CondK.intro (fun h2 => ?_) (fun h2 => ?_)
    · simp at h2
      omega
    · simp
      refine PreK.intro (by omega) fun _ => ?_
      simp
      exact hq (i + 1, n + (el ls i).length) _ ⟨by dsimp only; omega, by dsimp only; omega⟩ (by dsimp only; omega) (by simp)
  · simp at h
    rw [List.drop_eq_nil_of_le (by omega)] at hc
    simp at hc
    simp
    apply he
    simp
    refine CallX.own' (by simpa using grow_o n (by omega)) (by simp) ?_
    simp
    clear hq he hr
    refine LoopK.by (ι := Nat × Nat × List Int) (fun i => ⟨[(27, iv i.1), (26, iv ls.length), (25, .seq 1 (ls.map ints) false), (6, .sl 24 i.2.1 0 i.2.2.length)], [(24, some ⟨1, i.2.2.map iv, i.2.1, false⟩)]⟩) (fun i => ls.length - i.1)
      (fun i => i.1 ≤ ls.length ∧ i.2.2 ++ (ls.drop i.1).flatten = R) (0, 1, []) (by simpa using hR) (by simp) ?_
    intro ⟨i, ver, acc⟩ Q' ⟨hi, hc⟩ hq he hr
    dsimp only at hi hc
    simp
    refine CondK.intro (fun h => ?_) (fun h => ?_)
    · simp at h
      rw [drop_cons ls i h, List.flatten_cons, ← List.append_assoc] at hc
      have hlen : acc.length + (el ls i).length ≤ 900 := by
        have := congrArg List.length hc
        simp only [List.length_append] at this
        omega
      simp [h]
      refine PreK.intro (by omega) fun _ => ?_
      simp
      refine PreK.intro (by omega) fun _ => ?_
      simp
      exact hq (i + 1, ver + 1, acc ++ el ls i) _ ⟨by dsimp only; omega, by dsimp only; exact hc⟩ (by dsimp only; omega) (by simp)
    · simp at h
      rw [List.drop_eq_nil_of_le (by omega)] at hc
      simp at hc
      simp
      apply he
      simp [hc]
end Go.Proofs.Ytkhddecnllcaiaa
end

section
/- Functions of the cut as the value layer reads them. (written by gen.py) -/
set_option maxRecDepth 20000
namespace Go.Proofs.Ytkhddecnllcaiaa
open Go.Abs Go

def A105 : ACode :=
  (.seq (.reg [] [⟨some 6, (.assign (.const (.bool false))), 4, none⟩])
    (.seq (.reg [] [⟨some 7, (.move (.tmp 1)), 3, none⟩,
      ⟨some 8, (.move (.tmp 0)), 3, none⟩,
      ⟨some 9, (.binOp .leq 3 (.tmp 7) (.tmp 8) 3), 4, none⟩,
      ⟨some 10, (.move (.tmp 9)), 4, none⟩,
      ⟨some 11, (.move (.tmp 0)), 3, some (10, true)⟩,
      ⟨some 12, (.move (.tmp 2)), 3, some (10, true)⟩,
      ⟨some 13, (.binOp .leq 3 (.tmp 11) (.tmp 12) 3), 4, some (10, true)⟩,
      ⟨some 14, (.pick (.tmp 10) (.tmp 13) (.const (.bool false))), 4, none⟩,
      ⟨some 6, (.assign (.tmp 14)), 4, none⟩])
    .ret))
theorem C105 {args : List AV} {r : AV} (hn : args.length ≤ 15) (h : vc Try.prog T [] A105 (Fin T [(.tmp 6)] r) ⟨envOf 0 args, []⟩) : CallP Try.prog 105 args r :=
  callP_of tok mixed Try.func105 (by kernel_rfl) (by kernel_rfl) (by kernel_rfl : Try.f105.ntmps = 15) (by kernel_rfl : Try.f105.body.bind (strip 15 (fun _ => [])) = some A105) hn h
def A107 : ACode :=
  (.seq (.reg [] [⟨some 2, (.assign (.const (.bool false))), 4, none⟩])
    (.seq (.reg [] [⟨some 3, (.move (.tmp 0)), 3, none⟩,
      ⟨some 4, (.call ⟨(.value (.func 105)), #[(.tmp 3), (.const (.int .i64 0)), (.const (.int .i64 5))], #[3, 3, 3]⟩), 4, none⟩,
      ⟨some 2, (.assign (.tmp 4)), 4, none⟩])
    .ret))
theorem C107 {args : List AV} {r : AV} (hn : args.length ≤ 5) (h : vc Try.prog T [] A107 (Fin T [(.tmp 2)] r) ⟨envOf 0 args, []⟩) : CallP Try.prog 107 args r :=
  callP_of tok mixed Try.func107 (by kernel_rfl) (by kernel_rfl) (by kernel_rfl : Try.f107.ntmps = 5) (by kernel_rfl : Try.f107.body.bind (strip 5 (fun _ => [])) = some A107) hn h
def A86 : ACode :=
  (.seq (.reg [] [⟨some 2, (.assign (.const (.bool false))), 4, none⟩])
    (.seq (.reg [] [⟨some 3, (.move (.tmp 0)), 3, none⟩,
      ⟨some 4, (.binOp .eql 3 (.tmp 3) (.const (.int .i64 (-1))) 3), 4, none⟩,
      ⟨some 5, (.move (.tmp 4)), 4, none⟩,
      ⟨some 6, (.move (.tmp 0)), 3, some (5, false)⟩,
      ⟨some 7, (.call ⟨(.value (.func 107)), #[(.tmp 6)], #[3]⟩), 4, some (5, false)⟩,
      ⟨some 8, (.pick (.tmp 5) (.const (.bool true)) (.tmp 7)), 4, none⟩,
      ⟨some 2, (.assign (.tmp 8)), 4, none⟩])
    .ret))
theorem C86 {args : List AV} {r : AV} (hn : args.length ≤ 9) (h : vc Try.prog T [] A86 (Fin T [(.tmp 2)] r) ⟨envOf 0 args, []⟩) : CallP Try.prog 86 args r :=
  callP_of tok mixed Try.func86 (by kernel_rfl) (by kernel_rfl) (by kernel_rfl : Try.f86.ntmps = 9) (by kernel_rfl : Try.f86.body.bind (strip 9 (fun _ => [])) = some A86) hn h
def A82 : ACode :=
  (.seq (.reg [] [⟨some 1, (.box 24 (.tmp 0)), 0, none⟩,
      ⟨some 2, (.assign (.const (.int .i64 0))), 3, none⟩])
    (.seq (.seq (.reg [] [⟨some 3, (.fieldAddr 24 (.tmp 1) 0), 0, none⟩,
      ⟨some 4, (.load 3 (.tmp 3)), 3, none⟩,
      ⟨some 5, (.binOp .eql 3 (.tmp 4) (.const (.int .i64 (-1))) 3), 4, none⟩])
    (.cond (.tmp 5)
    (.seq (.reg [] [⟨some 2, (.assign (.const (.int .i64 0))), 3, none⟩])
    .ret)
    .skip))
    (.seq (.reg [] [⟨some 2, (.assign (.const (.int .i64 1))), 3, none⟩])
    .ret)))
theorem C82 {args : List AV} {r : AV} (hn : args.length ≤ 6) (h : vc Try.prog T [] A82 (Fin T [(.tmp 2)] r) ⟨envOf 0 args, []⟩) : CallP Try.prog 82 args r :=
  callP_of tok mixed Try.func82 (by kernel_rfl) (by kernel_rfl) (by kernel_rfl : Try.f82.ntmps = 6) (by kernel_rfl : Try.f82.body.bind (strip 6 (fun _ => [])) = some A82) hn h
def A83 : ACode :=
  (.seq (.reg [] [⟨some 4, (.assign (.const (.int .i64 0))), 3, none⟩])
    (.seq (.seq (.reg [] [⟨some 5, (.move (.tmp 1)), 3, none⟩,
      ⟨some 6, (.move (.tmp 0)), 22, none⟩,
      ⟨some 7, (.call ⟨(.builtin .len), #[(.tmp 6)], #[22]⟩), 3, none⟩,
      ⟨some 8, (.binOp .sub 3 (.tmp 7) (.const (.int .i64 1)) 3), 3, none⟩,
      ⟨some 9, (.call ⟨(.value (.func 105)), #[(.tmp 5), (.const (.int .i64 0)), (.tmp 8)], #[3, 3, 3]⟩), 4, none⟩,
      ⟨some 10, (.unOp .not 4 (.tmp 9)), 4, none⟩])
    (.cond (.tmp 10)
    (.seq (.reg [] [⟨some 4, (.assign (.const (.int .i64 (-1)))), 3, none⟩])
    .ret)
    .skip))
    (.seq (.reg [] [⟨some 11, (.move (.tmp 0)), 22, none⟩,
      ⟨some 12, (.move (.tmp 1)), 3, none⟩,
      ⟨some 13, (.indexAddr 22 (.tmp 11) (.tmp 12)), 0, none⟩,
      ⟨some 14, (.load 3 (.tmp 13)), 3, none⟩,
      ⟨some 4, (.assign (.tmp 14)), 3, none⟩])
    .ret)))
theorem C83 {args : List AV} {r : AV} (hn : args.length ≤ 15) (h : vc Try.prog T [] A83 (Fin T [(.tmp 4)] r) ⟨envOf 0 args, []⟩) : CallP Try.prog 83 args r :=
  callP_of tok mixed Try.func83 (by kernel_rfl) (by kernel_rfl) (by kernel_rfl : Try.f83.ntmps = 15) (by kernel_rfl : Try.f83.body.bind (strip 15 (fun _ => [])) = some A83) hn h
def A108 : ACode :=
  (.seq (.reg [] [⟨some 2, (.assign (.const (.bool false))), 4, none⟩])
    (.seq (.reg [] [⟨some 3, (.move (.tmp 0)), 3, none⟩,
      ⟨some 4, (.call ⟨(.value (.func 107)), #[(.tmp 3)], #[3]⟩), 4, none⟩,
      ⟨some 5, (.unOp .not 4 (.tmp 4)), 4, none⟩,
      ⟨some 2, (.assign (.tmp 5)), 4, none⟩])
    .ret))
theorem C108 {args : List AV} {r : AV} (hn : args.length ≤ 6) (h : vc Try.prog T [] A108 (Fin T [(.tmp 2)] r) ⟨envOf 0 args, []⟩) : CallP Try.prog 108 args r :=
  callP_of tok mixed Try.func108 (by kernel_rfl) (by kernel_rfl) (by kernel_rfl : Try.f108.ntmps = 6) (by kernel_rfl : Try.f108.body.bind (strip 6 (fun _ => [])) = some A108) hn h
def A87 : ACode :=
  (.seq (.reg [] [⟨some 2, (.assign (.const (.bool false))), 4, none⟩])
    (.seq (.reg [] [⟨some 3, (.move (.tmp 0)), 22, none⟩,
      ⟨some 4, (.call ⟨(.value (.func 99)), #[(.tmp 3), (.func 108)], #[22, 122]⟩), 4, none⟩,
      ⟨some 5, (.unOp .not 4 (.tmp 4)), 4, none⟩,
      ⟨some 2, (.assign (.tmp 5)), 4, none⟩])
    .ret))
theorem C87 {args : List AV} {r : AV} (hn : args.length ≤ 6) (h : vc Try.prog T [] A87 (Fin T [(.tmp 2)] r) ⟨envOf 0 args, []⟩) : CallP Try.prog 87 args r :=
  callP_of tok mixed Try.func87 (by kernel_rfl) (by kernel_rfl) (by kernel_rfl : Try.f87.ntmps = 6) (by kernel_rfl : Try.f87.body.bind (strip 6 (fun _ => [])) = some A87) hn h
def A115 : ACode :=
  (.seq (.reg [] [⟨some 4, (.assign (.const (.int .i64 0))), 3, none⟩])
    (.seq (.seq (.reg [] [⟨some 6, (.move (.tmp 0)), 22, none⟩,
      ⟨some 7, (.call ⟨(.builtin .len), #[(.tmp 6)], #[22]⟩), 3, none⟩,
      ⟨some 8, (.move (.const (.int .i64 0))), 3, none⟩])
    (.block 0 (.loop (.seq (.reg [] [⟨some 9, (.binOp .lss 3 (.tmp 8) (.tmp 7) 3), 0, none⟩])
    (.seq (.cond (.tmp 9)
    .skip
    (.exit 0))
    (.seq (.block 1 (.seq (.reg [] [⟨some 10, (.move (.tmp 8)), 3, none⟩,
      ⟨some 5, (.assign (.tmp 10)), 3, none⟩])
    (.seq (.reg [] [⟨some 11, (.move (.tmp 1)), 122, none⟩,
      ⟨some 12, (.move (.tmp 0)), 22, none⟩,
      ⟨some 13, (.move (.tmp 5)), 3, none⟩,
      ⟨some 14, (.indexAddr 22 (.tmp 12) (.tmp 13)), 0, none⟩,
      ⟨some 15, (.load 3 (.tmp 14)), 3, none⟩,
      ⟨some 16, (.call ⟨(.value (.tmp 11)), #[(.tmp 15)], #[3]⟩), 4, none⟩])
    (.cond (.tmp 16)
    (.seq (.reg [] [⟨some 17, (.move (.tmp 5)), 3, none⟩,
      ⟨some 4, (.assign (.tmp 17)), 3, none⟩])
    .ret)
    .skip))))
    (.reg [] [⟨some 18, (.binOp .add 3 (.tmp 8) (.const (.int .i64 1)) 3), 3, none⟩,
      ⟨some 8, (.move (.tmp 18)), 3, none⟩])))))))
    (.seq (.reg [] [⟨some 4, (.assign (.const (.int .i64 (-1)))), 3, none⟩])
    .ret)))
theorem C115 {args : List AV} {r : AV} (hn : args.length ≤ 19) (h : vc Try.prog T [] A115 (Fin T [(.tmp 4)] r) ⟨envOf 0 args, []⟩) : CallP Try.prog 115 args r :=
  callP_of tok mixed Try.func115 (by kernel_rfl) (by kernel_rfl) (by kernel_rfl : Try.f115.ntmps = 19) (by kernel_rfl : Try.f115.body.bind (strip 19 (fun _ => [])) = some A115) hn h
def A99 : ACode :=
  (.seq (.reg [] [⟨some 4, (.assign (.const (.bool false))), 4, none⟩])
    (.seq (.reg [] [⟨some 5, (.move (.tmp 0)), 22, none⟩,
      ⟨some 6, (.move (.tmp 1)), 122, none⟩,
      ⟨some 7, (.call ⟨(.value (.func 115)), #[(.tmp 5), (.tmp 6)], #[22, 122]⟩), 3, none⟩,
      ⟨some 8, (.binOp .geq 3 (.tmp 7) (.const (.int .i64 0)) 3), 4, none⟩,
      ⟨some 4, (.assign (.tmp 8)), 4, none⟩])
    .ret))
theorem C99 {args : List AV} {r : AV} (hn : args.length ≤ 9) (h : vc Try.prog T [] A99 (Fin T [(.tmp 4)] r) ⟨envOf 0 args, []⟩) : CallP Try.prog 99 args r :=
  callP_of tok mixed Try.func99 (by kernel_rfl) (by kernel_rfl) (by kernel_rfl : Try.f99.ntmps = 9) (by kernel_rfl : Try.f99.body.bind (strip 9 (fun _ => [])) = some A99) hn h
def A106 : ACode :=
  (.seq (.reg [] [⟨some 4, (.assign (.const (.int .i64 0))), 3, none⟩])
    (.seq (.seq (.reg [] [⟨some 6, (.move (.tmp 0)), 22, none⟩,
      ⟨some 7, (.call ⟨(.builtin .len), #[(.tmp 6)], #[22]⟩), 3, none⟩,
      ⟨some 8, (.move (.const (.int .i64 0))), 3, none⟩])
    (.block 0 (.loop (.seq (.reg [] [⟨some 9, (.binOp .lss 3 (.tmp 8) (.tmp 7) 3), 0, none⟩])
    (.seq (.cond (.tmp 9)
    .skip
    (.exit 0))
    (.seq (.block 1 (.seq (.reg [] [⟨some 10, (.move (.tmp 8)), 3, none⟩,
      ⟨some 5, (.assign (.tmp 10)), 3, none⟩])
    (.seq (.reg [] [⟨some 11, (.move (.tmp 1)), 3, none⟩,
      ⟨some 12, (.move (.tmp 0)), 22, none⟩,
      ⟨some 13, (.move (.tmp 5)), 3, none⟩,
      ⟨some 14, (.indexAddr 22 (.tmp 12) (.tmp 13)), 0, none⟩,
      ⟨some 15, (.load 3 (.tmp 14)), 3, none⟩,
      ⟨some 16, (.binOp .eql 3 (.tmp 11) (.tmp 15) 3), 4, none⟩])
    (.cond (.tmp 16)
    (.seq (.reg [] [⟨some 17, (.move (.tmp 5)), 3, none⟩,
      ⟨some 4, (.assign (.tmp 17)), 3, none⟩])
    .ret)
    .skip))))
    (.reg [] [⟨some 18, (.binOp .add 3 (.tmp 8) (.const (.int .i64 1)) 3), 3, none⟩,
      ⟨some 8, (.move (.tmp 18)), 3, none⟩])))))))
    (.seq (.reg [] [⟨some 4, (.assign (.const (.int .i64 (-1)))), 3, none⟩])
    .ret)))
theorem C106 {args : List AV} {r : AV} (hn : args.length ≤ 19) (h : vc Try.prog T [] A106 (Fin T [(.tmp 4)] r) ⟨envOf 0 args, []⟩) : CallP Try.prog 106 args r :=
  callP_of tok mixed Try.func106 (by kernel_rfl) (by kernel_rfl) (by kernel_rfl : Try.f106.ntmps = 19) (by kernel_rfl : Try.f106.body.bind (strip 19 (fun _ => [])) = some A106) hn h
def A85 : ACode :=
  (.seq (.reg [] [⟨some 4, (.assign (.const (.bool false))), 4, none⟩])
    (.seq (.reg [] [⟨some 5, (.move (.tmp 0)), 22, none⟩,
      ⟨some 6, (.move (.tmp 1)), 3, none⟩,
      ⟨some 7, (.call ⟨(.value (.func 106)), #[(.tmp 5), (.tmp 6)], #[22, 3]⟩), 3, none⟩,
      ⟨some 8, (.binOp .geq 3 (.tmp 7) (.const (.int .i64 0)) 3), 4, none⟩,
      ⟨some 4, (.assign (.tmp 8)), 4, none⟩])
    .ret))
theorem C85 {args : List AV} {r : AV} (hn : args.length ≤ 9) (h : vc Try.prog T [] A85 (Fin T [(.tmp 4)] r) ⟨envOf 0 args, []⟩) : CallP Try.prog 85 args r :=
  callP_of tok mixed Try.func85 (by kernel_rfl) (by kernel_rfl) (by kernel_rfl : Try.f85.ntmps = 9) (by kernel_rfl : Try.f85.body.bind (strip 9 (fun _ => [])) = some A85) hn h
def A89 : ACode :=
  (.seq (.reg [] [⟨some 4, (.assign (.const (.bool false))), 4, none⟩])
    (.seq (.seq (.reg [] [⟨some 6, (.move (.tmp 0)), 22, none⟩,
      ⟨some 7, (.call ⟨(.builtin .len), #[(.tmp 6)], #[22]⟩), 3, none⟩,
      ⟨some 8, (.move (.tmp 1)), 22, none⟩,
      ⟨some 9, (.call ⟨(.builtin .len), #[(.tmp 8)], #[22]⟩), 3, none⟩,
      ⟨some 10, (.binOp .neq 3 (.tmp 7) (.tmp 9) 3), 4, none⟩])
    (.cond (.tmp 10)
    (.seq (.reg [] [⟨some 4, (.assign (.const (.bool false))), 4, none⟩])
    .ret)
    .skip))
    (.seq (.seq (.reg [] [⟨some 11, (.move (.tmp 0)), 22, none⟩,
      ⟨some 12, (.call ⟨(.builtin .len), #[(.tmp 11)], #[22]⟩), 3, none⟩,
      ⟨some 13, (.move (.const (.int .i64 0))), 3, none⟩])
    (.block 0 (.loop (.seq (.reg [] [⟨some 14, (.binOp .lss 3 (.tmp 13) (.tmp 12) 3), 0, none⟩])
    (.seq (.cond (.tmp 14)
    .skip
    (.exit 0))
    (.seq (.block 1 (.seq (.reg [] [⟨some 15, (.move (.tmp 13)), 3, none⟩,
      ⟨some 5, (.assign (.tmp 15)), 3, none⟩])
    (.seq (.draw [] [⟨some 16, (.move (.tmp 0)), 22, none⟩,
      ⟨some 17, (.move (.tmp 5)), 3, none⟩,
      ⟨some 18, (.indexAddr 22 (.tmp 16) (.tmp 17)), 0, none⟩,
      ⟨some 19, (.load 3 (.tmp 18)), 3, none⟩,
      ⟨some 20, (.move (.tmp 1)), 22, none⟩,
      ⟨some 21, (.move (.tmp 5)), 3, none⟩,
      ⟨some 22, (.indexAddr 22 (.tmp 20) (.tmp 21)), 0, none⟩,
      ⟨some 23, (.load 3 (.tmp 22)), 3, none⟩,
      ⟨some 24, (.binOp .neq 3 (.tmp 19) (.tmp 23) 3), 4, none⟩] [(0, 1), (0, 4), (1, 4), (2, 4), (3, 4), (0, 5), (1, 5), (2, 5), (3, 5), (4, 5), (0, 6), (1, 6), (2, 6), (3, 6), (0, 7), (1, 7), (2, 7), (3, 7)])
    (.cond (.tmp 24)
    (.seq (.reg [] [⟨some 4, (.assign (.const (.bool false))), 4, none⟩])
    .ret)
    .skip))))
    (.reg [] [⟨some 25, (.binOp .add 3 (.tmp 13) (.const (.int .i64 1)) 3), 3, none⟩,
      ⟨some 13, (.move (.tmp 25)), 3, none⟩])))))))
    (.seq (.reg [] [⟨some 4, (.assign (.const (.bool true))), 4, none⟩])
    .ret))))
theorem C89 {args : List AV} {r : AV} (hn : args.length ≤ 26) (h : vc Try.prog T [] A89 (Fin T [(.tmp 4)] r) ⟨envOf 0 args, []⟩) : CallP Try.prog 89 args r :=
  callP_of tok mixed Try.func89 (by kernel_rfl) (by kernel_rfl) (by kernel_rfl : Try.f89.ntmps = 26) (by kernel_rfl : Try.f89.body.bind (strip 26 (fun _ => [])) = some A89) hn h
def A53 : ACode :=
  (.seq (.reg [] [⟨some 2, (.assign (.const (.slice none 0 0))), 22, none⟩,
      ⟨some 3, (.assign (.const (.int .i64 0))), 27, none⟩])
    (.seq (.seq (.reg [] [⟨some 4, (.move (.tmp 0)), 22, none⟩,
      ⟨some 5, (.call ⟨(.builtin .len), #[(.tmp 4)], #[22]⟩), 3, none⟩,
      ⟨some 6, (.binOp .gtr 3 (.tmp 5) (.const (.int .i64 8)) 3), 4, none⟩])
    (.cond (.tmp 6)
    (.seq (.reg [] [⟨some 2, (.assign (.const (.slice none 0 0))), 22, none⟩,
      ⟨some 3, (.assign (.const (.int .i64 3))), 27, none⟩])
    .ret)
    .skip))
    (.seq (.reg [] [⟨some 7, (.move (.tmp 0)), 22, none⟩,
      ⟨some 2, (.assign (.tmp 7)), 22, none⟩,
      ⟨some 3, (.assign (.const (.int .i64 0))), 27, none⟩])
    .ret)))
theorem C53 {args : List AV} {r : AV} (hn : args.length ≤ 8) (h : vc Try.prog T [] A53 (Fin T [(.tmp 2), (.tmp 3)] r) ⟨envOf 0 args, []⟩) : CallP Try.prog 53 args r :=
  callP_of tok mixed Try.func53 (by kernel_rfl) (by kernel_rfl) (by kernel_rfl : Try.f53.ntmps = 8) (by kernel_rfl : Try.f53.body.bind (strip 8 (fun _ => [])) = some A53) hn h

end Go.Proofs.Ytkhddecnllcaiaa
end

section
/- Contracts: leaves of package rule. -/
namespace Go.Proofs.Ytkhddecnllcaiaa
open Go.Abs Go
set_option maxRecDepth 20000
set_option maxHeartbeats 2000000
attribute [local irreducible] PreK CondK CallK CallG CallX LoopK

theorem within_c (n lo hi : Int) : CallP Try.prog 105 [iv n, iv lo, iv hi] (bv (decide (lo ≤ n) && decide (n ≤ hi))) := by
  refine C105 (by simp) ?_
  simp [A105]
def isSound (n : Int) : Bool := decide (0 ≤ n) && decide (n ≤ 5)
theorem isSound_c (n : Int) : CallP Try.prog 107 [iv n] (bv (isSound n)) := by
  refine C107 (by simp) ?_
  simp [A107]
  refine CallX.pure (by simpa using within_c n 0 5) (by simp) (by simp) ?_
  simp [isSound]
def isNeighbor (n : Int) : Bool := decide (n = -1) || isSound n
theorem isNeighbor_c (n : Int) : CallP Try.prog 86 [iv n] (bv (isNeighbor n)) := by
  refine C86 (by simp) ?_
  simp [A86]
  refine CallG.intro (fun _ => by simpa using isSound_c n) (by simp) (by simp) ?_
  simp [isNeighbor]
theorem notSound_c (n : Int) : CallP Try.prog 108 [iv n] (bv (!isSound n)) := by
  refine C108 (by simp) ?_
  simp [A108]
  refine CallX.pure (by simpa using isSound_c n) (by simp) (by simp) ?_
  simp
def long (r : Rule) : Int := if r.frm = -1 then 0 else 1
theorem long_c (r : Rule) : CallP Try.prog 82 [ruleV r] (iv (long r)) := by
  refine C82 (by simp) ?_
  simp [A82]
  refine CondK.intro (fun h => ?_) (fun h => ?_)
  · simp at h
    simp [long, h]
  · simp at h
    simp [long, h]
def atW (w : List Int) (i : Int) : Int := if 0 ≤ i ∧ i < w.length then el w i.toNat else -1
theorem at_c (w : List Int) (i : Int) (hw : w.length ≤ 1000) : CallP Try.prog 83 [ints w, iv i] (iv (atW w i)) := by
  refine C83 (by simp) ?_
  simp [A83]
  refine PreK.intro (by omega) fun _ => ?_
  simp
  refine CallX.pure (by simpa using within_c i 0 (w.length - 1)) (by simp) (by simp) ?_
  simp
  refine CondK.intro (fun h => ?_) (fun h => ?_)
  · simp at h
    have : ¬ (0 ≤ i ∧ i < w.length) := by omega
    simp [atW, this]
  · simp at h
    have h2 : 0 ≤ i ∧ i < w.length := by omega
    simp [h2, show i.toNat < w.length by omega]
    simp [atW, h2]
end Go.Proofs.Ytkhddecnllcaiaa
end

section
/- Contracts: the library's searches in []int. -/
namespace Go.Proofs.Ytkhddecnllcaiaa
open Go.Abs Go
set_option maxRecDepth 20000
set_option maxHeartbeats 2000000
attribute [local irreducible] PreK CondK CallK CallG CallX LoopK

def idxF (p : Int → Bool) : Nat → List Int → Int
  | _, [] => -1
  | k, x :: r => if p x then k else idxF p (k + 1) r
theorem idxF_any (p : Int → Bool) : ∀ (l : List Int) (k : Nat), decide (0 ≤ idxF p k l) = l.any p
  | [], k => by simp [idxF]
  | x :: r, k => by
    by_cases h : p x = true
    · simp [idxF, h]
    · simp [idxF, h, idxF_any p r (k + 1)]

theorem indexFunc_c (l : List Int) (hl : l.length ≤ big) (f : FuncId) (cap : List AV) (p : Int → Bool) (hp : ∀ x, CallP Try.prog f (iv x :: cap) (bv (p x))) (h1 : ∀ m, snapL m cap = cap) (h2 : AV.refsL cap = []) (h3 : ∀ m, snapOKL m cap) :
    CallP Try.prog 115 [ints l, .fn f [] cap] (iv (idxF p 0 l)) := by
  refine C115 (by simp) ?_
  generalize hR : idxF p 0 l = R
  simp [A115]
  refine LoopK.by (fun i : Nat => ⟨[(8, iv i), (7, iv l.length), (0, ints l), (1, .fn f [] cap)], []⟩) (fun i => l.length - i) (fun i => i ≤ l.length ∧ idxF p i (l.drop i) = R) 0 (by simpa using hR) (by simp [h2]) ?_
  intro i Q' ⟨hi, hc⟩ hq he hr
  simp
  refine CondK.intro (fun h => ?_) (fun h => ?_)
  · simp at h
    rw [drop_cons l i h] at hc
    simp [h]
    refine CallX.pure (by simpa [h1] using hp (el l i)) (by simp [h3]) (by simp) ?_
    simp
    refine CondK.intro (fun h4 => ?_) (fun h4 => ?_)
    · simp [idxF, h4] at hc
      simp
      apply hr
      simp [hc]
    · simp [idxF, h4] at hc
      simp
      refine PreK.intro (by simp only [big] at hl; omega) fun _ => ?_
      simp
      exact hq (i + 1) _ ⟨by omega, hc⟩ (by omega) (by simp [h2])
  · simp at h
    rw [List.drop_eq_nil_of_le (by omega)] at hc
    simp [idxF] at hc
    simp
    apply he
    simp [hc]

theorem containsFunc_c (l : List Int) (hl : l.length ≤ big) (f : FuncId) (cap : List AV) (p : Int → Bool) (hp : ∀ x, CallP Try.prog f (iv x :: cap) (bv (p x))) (h1 : ∀ m, snapL m cap = cap) (h2 : AV.refsL cap = []) (h3 : ∀ m, snapOKL m cap) :
    CallP Try.prog 99 [ints l, .fn f [] cap] (bv (l.any p)) := by
  refine C99 (by simp) ?_
  rw [← idxF_any p l 0]
  simp [A99]
  refine CallX.pure (by simpa [h1] using indexFunc_c l hl f cap p hp h1 h2 h3) (by simp [h3]) (by simp) ?_
  simp

theorem index_c (l : List Int) (n : Int) (hl : l.length ≤ big) : CallP Try.prog 106 [ints l, iv n] (iv (idxF (fun x => decide (n = x)) 0 l)) := by
  refine C106 (by simp) ?_
  generalize hR : idxF (fun x => decide (n = x)) 0 l = R
  simp [A106]
  refine LoopK.by (fun i : Nat => ⟨[(8, iv i), (7, iv l.length), (0, ints l), (1, iv n)], []⟩) (fun i => l.length - i) (fun i => i ≤ l.length ∧ idxF (fun x => decide (n = x)) i (l.drop i) = R) 0 (by simpa using hR) (by simp) ?_
  intro i Q' ⟨hi, hc⟩ hq he hr
  simp
  refine CondK.intro (fun h => ?_) (fun h => ?_)
  · simp at h
    rw [drop_cons l i h] at hc
    simp [h]
    refine CondK.intro (fun h4 => ?_) (fun h4 => ?_)
    · simp at h4
      simp [idxF, h4] at hc
      simp
      apply hr
      simp [hc]
    · simp at h4
      simp [idxF, h4] at hc
      simp
      refine PreK.intro (by simp only [big] at hl; omega) fun _ => ?_
      simp
      exact hq (i + 1) _ ⟨by omega, hc⟩ (by omega) (by simp)
  · simp at h
    rw [List.drop_eq_nil_of_le (by omega)] at hc
    simp [idxF] at hc
    simp
    apply he
    simp [hc]

theorem contains_c (l : List Int) (n : Int) (hl : l.length ≤ big) : CallP Try.prog 85 [ints l, iv n] (bv (l.any fun x => decide (n = x))) := by
  refine C85 (by simp) ?_
  rw [← idxF_any _ l 0]
  simp [A85]
  refine CallX.pure (by simpa using index_c l n hl) (by simp) (by simp) ?_
  simp

theorem areSounds_c (l : List Int) (hl : l.length ≤ big) : CallP Try.prog 87 [ints l] (bv (!l.any fun x => !isSound x)) := by
  refine C87 (by simp) ?_
  simp [A87]
  refine CallX.pure (by simpa using containsFunc_c l hl 108 [] (fun x => !isSound x) notSound_c (by simp) (by simp) (by simp)) (by simp) (by simp) ?_
  simp
end Go.Proofs.Ytkhddecnllcaiaa
end

section
/- Functions of the cut as the value layer reads them. (written by gen.py) -/
set_option maxRecDepth 20000
namespace Go.Proofs.Ytkhddecnllcaiaa
open Go.Abs Go

def A52 : ACode :=
  (.seq (.reg [] [⟨some 2, (.assign (.const (.int .i64 0))), 27, none⟩])
    (.seq (.seq (.reg [] [⟨some 3, (.move (.tmp 0)), 22, none⟩,
      ⟨some 4, (.call ⟨(.builtin .len), #[(.tmp 3)], #[22]⟩), 3, none⟩,
      ⟨some 5, (.binOp .gtr 3 (.tmp 4) (.const (.int .i64 8)) 3), 4, none⟩])
    (.cond (.tmp 5)
    (.seq (.reg [] [⟨some 2, (.assign (.const (.int .i64 3))), 27, none⟩])
    .ret)
    .skip))
    (.seq (.seq (.reg [] [⟨some 6, (.move (.tmp 0)), 22, none⟩,
      ⟨some 7, (.call ⟨(.value (.func 87)), #[(.tmp 6)], #[22]⟩), 4, none⟩,
      ⟨some 8, (.unOp .not 4 (.tmp 7)), 4, none⟩])
    (.cond (.tmp 8)
    (.seq (.reg [] [⟨some 2, (.assign (.const (.int .i64 1))), 27, none⟩])
    .ret)
    .skip))
    (.seq (.reg [] [⟨some 2, (.assign (.const (.int .i64 0))), 27, none⟩])
    .ret))))
theorem C52 {args : List AV} {r : AV} (hn : args.length ≤ 9) (h : vc Try.prog T [] A52 (Fin T [(.tmp 2)] r) ⟨envOf 0 args, []⟩) : CallP Try.prog 52 args r :=
  callP_of tok mixed Try.func52 (by kernel_rfl) (by kernel_rfl) (by kernel_rfl : Try.f52.ntmps = 9) (by kernel_rfl : Try.f52.body.bind (strip 9 (fun _ => [])) = some A52) hn h
def A88 : ACode :=
  (.seq (.reg [] [⟨some 2, (.assign (.const (.bool false))), 4, none⟩])
    (.seq (.seq (.reg [] [⟨some 5, (.move (.tmp 0)), 22, none⟩,
      ⟨some 6, (.call ⟨(.builtin .len), #[(.tmp 5)], #[22]⟩), 3, none⟩,
      ⟨some 7, (.move (.const (.int .i64 0))), 3, none⟩])
    (.block 0 (.loop (.seq (.reg [] [⟨some 8, (.binOp .lss 3 (.tmp 7) (.tmp 6) 3), 0, none⟩])
    (.seq (.cond (.tmp 8)
    .skip
    (.exit 0))
    (.seq (.block 1 (.seq (.reg [] [⟨some 9, (.move (.tmp 7)), 3, none⟩,
      ⟨some 10, (.indexAddr 22 (.tmp 5) (.tmp 7)), 0, none⟩,
      ⟨some 11, (.load 3 (.tmp 10)), 3, none⟩,
      ⟨some 3, (.assign (.tmp 9)), 3, none⟩,
      ⟨some 4, (.assign (.tmp 11)), 3, none⟩])
    (.seq (.reg [] [⟨some 12, (.move (.tmp 4)), 3, none⟩,
      ⟨some 13, (.call ⟨(.value (.func 86)), #[(.tmp 12)], #[3]⟩), 4, none⟩,
      ⟨some 14, (.unOp .not 4 (.tmp 13)), 4, none⟩,
      ⟨some 15, (.move (.tmp 14)), 4, none⟩,
      ⟨some 16, (.move (.tmp 3)), 3, some (15, false)⟩,
      ⟨some 17, (.binOp .gtr 3 (.tmp 16) (.const (.int .i64 0)) 3), 4, some (15, false)⟩,
      ⟨some 18, (.move (.tmp 17)), 4, some (15, false)⟩,
      ⟨some 19, (.move (.tmp 0)), 22, some (18, true)⟩,
      ⟨some 20, (.move (.tmp 3)), 3, some (18, true)⟩,
      ⟨some 21, (.binOp .sub 3 (.tmp 20) (.const (.int .i64 1)) 3), 3, some (18, true)⟩,
      ⟨some 22, (.indexAddr 22 (.tmp 19) (.tmp 21)), 0, some (18, true)⟩,
      ⟨some 23, (.load 3 (.tmp 22)), 3, some (18, true)⟩,
      ⟨some 24, (.move (.tmp 4)), 3, some (18, true)⟩,
      ⟨some 25, (.binOp .geq 3 (.tmp 23) (.tmp 24) 3), 4, some (18, true)⟩,
      ⟨some 26, (.pick (.tmp 18) (.tmp 25) (.const (.bool false))), 4, some (15, false)⟩,
      ⟨some 27, (.pick (.tmp 15) (.const (.bool true)) (.tmp 26)), 4, none⟩])
    (.cond (.tmp 27)
    (.seq (.reg [] [⟨some 2, (.assign (.const (.bool false))), 4, none⟩])
    .ret)
    .skip))))
    (.reg [] [⟨some 28, (.binOp .add 3 (.tmp 7) (.const (.int .i64 1)) 3), 3, none⟩,
      ⟨some 7, (.move (.tmp 28)), 3, none⟩])))))))
    (.seq (.reg [] [⟨some 2, (.assign (.const (.bool true))), 4, none⟩])
    .ret)))
theorem C88 {args : List AV} {r : AV} (hn : args.length ≤ 29) (h : vc Try.prog T [] A88 (Fin T [(.tmp 2)] r) ⟨envOf 0 args, []⟩) : CallP Try.prog 88 args r :=
  callP_of tok mixed Try.func88 (by kernel_rfl) (by kernel_rfl) (by kernel_rfl : Try.f88.ntmps = 29) (by kernel_rfl : Try.f88.body.bind (strip 29 (fun _ => [])) = some A88) hn h
def A48 : ACode :=
  (.seq (.reg [] [⟨some 1, (.box 24 (.tmp 0)), 0, none⟩,
      ⟨some 2, (.assign (.const (.int .i64 0))), 27, none⟩])
    (.seq (.block 0 (.seq (.reg [] [⟨some 4, (.fieldAddr 24 (.tmp 1) 0), 0, none⟩,
      ⟨some 5, (.load 3 (.tmp 4)), 3, none⟩,
      ⟨some 6, (.call ⟨(.value (.func 86)), #[(.tmp 5)], #[3]⟩), 4, none⟩,
      ⟨some 7, (.unOp .not 4 (.tmp 6)), 4, none⟩,
      ⟨some 3, (.assign (.tmp 7)), 4, none⟩])
    (.cond (.tmp 3)
    (.seq (.reg [] [⟨some 2, (.assign (.const (.int .i64 1))), 27, none⟩])
    .ret)
    (.seq (.reg [] [⟨some 9, (.fieldAddr 24 (.tmp 1) 1), 0, none⟩,
      ⟨some 10, (.load 22 (.tmp 9)), 22, none⟩,
      ⟨some 11, (.call ⟨(.builtin .len), #[(.tmp 10)], #[22]⟩), 3, none⟩,
      ⟨some 12, (.binOp .gtr 3 (.tmp 11) (.const (.int .i64 2)) 3), 4, none⟩,
      ⟨some 8, (.assign (.tmp 12)), 4, none⟩])
    (.cond (.tmp 8)
    (.seq (.reg [] [⟨some 2, (.assign (.const (.int .i64 3))), 27, none⟩])
    .ret)
    (.seq (.reg [] [⟨some 14, (.fieldAddr 24 (.tmp 1) 1), 0, none⟩,
      ⟨some 15, (.load 22 (.tmp 14)), 22, none⟩,
      ⟨some 16, (.call ⟨(.value (.func 87)), #[(.tmp 15)], #[22]⟩), 4, none⟩,
      ⟨some 17, (.unOp .not 4 (.tmp 16)), 4, none⟩,
      ⟨some 18, (.move (.tmp 17)), 4, none⟩,
      ⟨some 19, (.fieldAddr 24 (.tmp 1) 2), 0, some (18, false)⟩,
      ⟨some 20, (.load 22 (.tmp 19)), 22, some (18, false)⟩,
      ⟨some 21, (.call ⟨(.value (.func 88)), #[(.tmp 20)], #[22]⟩), 4, some (18, false)⟩,
      ⟨some 22, (.unOp .not 4 (.tmp 21)), 4, some (18, false)⟩,
      ⟨some 23, (.pick (.tmp 18) (.const (.bool true)) (.tmp 22)), 4, none⟩,
      ⟨some 24, (.move (.tmp 23)), 4, none⟩,
      ⟨some 25, (.fieldAddr 24 (.tmp 1) 3), 0, some (24, false)⟩,
      ⟨some 26, (.load 22 (.tmp 25)), 22, some (24, false)⟩,
      ⟨some 27, (.call ⟨(.value (.func 88)), #[(.tmp 26)], #[22]⟩), 4, some (24, false)⟩,
      ⟨some 28, (.unOp .not 4 (.tmp 27)), 4, some (24, false)⟩,
      ⟨some 29, (.pick (.tmp 24) (.const (.bool true)) (.tmp 28)), 4, none⟩,
      ⟨some 13, (.assign (.tmp 29)), 4, none⟩])
    (.cond (.tmp 13)
    (.seq (.reg [] [⟨some 2, (.assign (.const (.int .i64 1))), 27, none⟩])
    .ret)
    (.seq (.seq (.reg [] [⟨some 31, (.fieldAddr 24 (.tmp 1) 0), 0, none⟩,
      ⟨some 32, (.load 3 (.tmp 31)), 3, none⟩,
      ⟨some 33, (.binOp .eql 3 (.tmp 32) (.const (.int .i64 (-1))) 3), 4, none⟩,
      ⟨some 34, (.move (.tmp 33)), 4, none⟩,
      ⟨some 35, (.fieldAddr 24 (.tmp 1) 1), 0, some (34, true)⟩,
      ⟨some 36, (.load 22 (.tmp 35)), 22, some (34, true)⟩,
      ⟨some 37, (.call ⟨(.builtin .len), #[(.tmp 36)], #[22]⟩), 3, some (34, true)⟩,
      ⟨some 38, (.binOp .eql 3 (.tmp 37) (.const (.int .i64 0)) 3), 4, some (34, true)⟩,
      ⟨some 39, (.pick (.tmp 34) (.tmp 38) (.const (.bool false))), 4, none⟩,
      ⟨some 30, (.assign (.tmp 39)), 4, none⟩])
    (.cond (.tmp 30)
    .skip
    (.reg [] [⟨some 40, (.fieldAddr 24 (.tmp 1) 1), 0, none⟩,
      ⟨some 41, (.load 22 (.tmp 40)), 22, none⟩,
      ⟨some 42, (.fieldAddr 24 (.tmp 1) 0), 0, none⟩,
      ⟨some 43, (.load 3 (.tmp 42)), 3, none⟩,
      ⟨some 44, (.buildSlice 22 1 #[(0, (.tmp 43))]), 22, none⟩,
      ⟨some 45, (.call ⟨(.value (.func 89)), #[(.tmp 41), (.tmp 44)], #[22, 22]⟩), 4, none⟩,
      ⟨some 30, (.assign (.tmp 45)), 4, none⟩])))
    (.cond (.tmp 30)
    (.seq (.reg [] [⟨some 2, (.assign (.const (.int .i64 6))), 27, none⟩])
    .ret)
    .skip)))))))))
    (.seq (.reg [] [⟨some 2, (.assign (.const (.int .i64 0))), 27, none⟩])
    .ret)))
theorem C48 {args : List AV} {r : AV} (hn : args.length ≤ 46) (h : vc Try.prog T [] A48 (Fin T [(.tmp 2)] r) ⟨envOf 0 args, []⟩) : CallP Try.prog 48 args r :=
  callP_of tok mixed Try.func48 (by kernel_rfl) (by kernel_rfl) (by kernel_rfl : Try.f48.ntmps = 46) (by kernel_rfl : Try.f48.body.bind (strip 46 (fun _ => [])) = some A48) hn h
def A42 : ACode :=
  (.seq (.reg [] [⟨some 2, (.box 24 (.tmp 0)), 0, none⟩,
      ⟨some 4, (.assign (.const (.int .i64 0))), 27, none⟩])
    (.seq (.seq (.reg [] [⟨some 6, (.load 24 (.tmp 2)), 24, none⟩,
      ⟨some 7, (.call ⟨(.value (.func 48)), #[(.tmp 6)], #[24]⟩), 27, none⟩,
      ⟨some 5, (.assign (.tmp 7)), 27, none⟩])
    (.seq (.reg [] [⟨some 8, (.move (.tmp 5)), 27, none⟩,
      ⟨some 9, (.binOp .neq 27 (.tmp 8) (.const (.int .i64 0)) 27), 4, none⟩])
    (.cond (.tmp 9)
    (.seq (.reg [] [⟨some 10, (.move (.tmp 5)), 27, none⟩,
      ⟨some 4, (.assign (.tmp 10)), 27, none⟩])
    .ret)
    .skip)))
    (.seq (.reg [] [⟨some 11, (.move (.tmp 1)), 22, none⟩,
      ⟨some 12, (.call ⟨(.value (.func 52)), #[(.tmp 11)], #[22]⟩), 27, none⟩,
      ⟨some 4, (.assign (.tmp 12)), 27, none⟩])
    .ret)))
theorem C42 {args : List AV} {r : AV} (hn : args.length ≤ 13) (h : vc Try.prog T [] A42 (Fin T [(.tmp 4)] r) ⟨envOf 0 args, []⟩) : CallP Try.prog 42 args r :=
  callP_of tok mixed Try.func42 (by kernel_rfl) (by kernel_rfl) (by kernel_rfl : Try.f42.ntmps = 13) (by kernel_rfl : Try.f42.body.bind (strip 13 (fun _ => [])) = some A42) hn h
def A47 : ACode :=
  (.seq (.reg [] [⟨some 2, (.alloc 76), 0, none⟩])
    (.seq (.reg [] [⟨some 3, (.alloc 76), 0, none⟩])
    (.seq (.seq (.reg [] [⟨some 5, (.move (.const (.int .i64 0))), 3, none⟩])
    (.block 0 (.loop (.seq (.reg [] [⟨some 6, (.binOp .lss 3 (.tmp 5) (.const (.int .i64 7)) 3), 0, none⟩])
    (.seq (.cond (.tmp 6)
    .skip
    (.exit 0))
    (.seq (.block 1 (.seq (.reg [] [⟨some 7, (.move (.tmp 5)), 3, none⟩,
      ⟨some 4, (.assign (.tmp 7)), 3, none⟩])
    (.reg [] [⟨some 8, (.move (.tmp 4)), 3, none⟩,
      ⟨some 9, (.move (.tmp 0)), 22, none⟩,
      ⟨some 10, (.call ⟨(.builtin .len), #[(.tmp 9)], #[22]⟩), 3, none⟩,
      ⟨some 11, (.binOp .eql 3 (.tmp 10) (.const (.int .i64 0)) 3), 4, none⟩,
      ⟨some 12, (.move (.tmp 11)), 4, none⟩,
      ⟨some 13, (.move (.tmp 0)), 22, some (12, false)⟩,
      ⟨some 14, (.move (.tmp 4)), 3, some (12, false)⟩,
      ⟨some 15, (.binOp .sub 3 (.tmp 14) (.const (.int .i64 1)) 3), 3, some (12, false)⟩,
      ⟨some 16, (.call ⟨(.value (.func 85)), #[(.tmp 13), (.tmp 15)], #[22, 3]⟩), 4, some (12, false)⟩,
      ⟨some 17, (.pick (.tmp 12) (.const (.bool true)) (.tmp 16)), 4, none⟩,
      ⟨some 18, (.indexAddr 76 (.tmp 3) (.tmp 8)), 0, none⟩,
      ⟨none, (.store 4 (.tmp 18) (.tmp 17)), 0, none⟩])))
    (.reg [] [⟨some 19, (.binOp .add 3 (.tmp 5) (.const (.int .i64 1)) 3), 3, none⟩,
      ⟨some 5, (.move (.tmp 19)), 3, none⟩])))))))
    (.seq (.reg [] [⟨some 20, (.load 76 (.tmp 3)), 76, none⟩,
      ⟨none, (.store 76 (.tmp 2) (.tmp 20)), 0, none⟩])
    .ret))))
theorem C47 {args : List AV} {r : AV} (hn : args.length ≤ 21) (h : vc Try.prog T [] A47 (Fin T [(.cell 2 76)] r) ⟨envOf 0 args, []⟩) : CallP Try.prog 47 args r :=
  callP_of tok mixed Try.func47 (by kernel_rfl) (by kernel_rfl) (by kernel_rfl : Try.f47.ntmps = 21) (by kernel_rfl : Try.f47.body.bind (strip 21 (fun _ => [])) = some A47) hn h
def A43 : ACode :=
  (.seq (.reg [] [⟨some 2, (.box 24 (.tmp 0)), 0, none⟩,
      ⟨some 4, (.assign (.const (.slice none 0 0))), 22, none⟩])
    (.seq (.draw [] [⟨some 9, (.fieldAddr 24 (.tmp 2) 2), 0, none⟩,
      ⟨some 10, (.load 22 (.tmp 9)), 22, none⟩,
      ⟨some 11, (.call ⟨(.value (.func 47)), #[(.tmp 10)], #[22]⟩), 76, none⟩,
      ⟨some 12, (.makeFunc (.func 81) #[(.tmp 11)] #[]), 122, none⟩,
      ⟨some 13, (.fieldAddr 24 (.tmp 2) 3), 0, none⟩,
      ⟨some 14, (.load 22 (.tmp 13)), 22, none⟩,
      ⟨some 15, (.call ⟨(.value (.func 47)), #[(.tmp 14)], #[22]⟩), 76, none⟩,
      ⟨some 16, (.makeFunc (.func 81) #[(.tmp 15)] #[]), 122, none⟩,
      ⟨some 5, (.assign (.tmp 12)), 122, none⟩,
      ⟨some 6, (.assign (.tmp 16)), 122, none⟩] [(0, 4), (1, 4), (2, 4), (3, 4), (0, 5), (1, 5), (2, 5), (3, 5), (3, 6), (3, 7), (7, 8)])
    (.seq (.reg [] [⟨some 7, (.assign (.const (.slice none 0 0))), 22, none⟩])
    (.seq (.seq (.reg [] [⟨some 17, (.move (.tmp 1)), 22, none⟩,
      ⟨some 18, (.call ⟨(.builtin .len), #[(.tmp 17)], #[22]⟩), 3, none⟩,
      ⟨some 19, (.binOp .add 3 (.tmp 18) (.const (.int .i64 1)) 3), 3, none⟩,
      ⟨some 20, (.load 24 (.tmp 2)), 24, none⟩,
      ⟨some 21, (.call ⟨(.value (.func 82)), #[(.tmp 20)], #[24]⟩), 3, none⟩,
      ⟨some 22, (.binOp .sub 3 (.tmp 19) (.tmp 21) 3), 3, none⟩,
      ⟨some 23, (.move (.const (.int .i64 0))), 3, none⟩])
    (.block 0 (.loop (.seq (.reg [] [⟨some 24, (.binOp .lss 3 (.tmp 23) (.tmp 22) 3), 4, none⟩])
    (.seq (.cond (.tmp 24)
    .skip
    (.exit 0))
    (.seq (.block 1 (.seq (.reg [] [⟨some 25, (.move (.tmp 23)), 3, none⟩,
      ⟨some 8, (.assign (.tmp 25)), 3, none⟩])
    (.seq (.draw [] [⟨some 26, (.fieldAddr 24 (.tmp 2) 0), 0, none⟩,
      ⟨some 27, (.load 3 (.tmp 26)), 3, none⟩,
      ⟨some 28, (.binOp .eql 3 (.tmp 27) (.const (.int .i64 (-1))) 3), 4, none⟩,
      ⟨some 29, (.move (.tmp 28)), 4, none⟩,
      ⟨some 30, (.move (.tmp 1)), 22, some (29, false)⟩,
      ⟨some 31, (.move (.tmp 8)), 3, some (29, false)⟩,
      ⟨some 32, (.indexAddr 22 (.tmp 30) (.tmp 31)), 0, some (29, false)⟩,
      ⟨some 33, (.load 3 (.tmp 32)), 3, some (29, false)⟩,
      ⟨some 34, (.fieldAddr 24 (.tmp 2) 0), 0, some (29, false)⟩,
      ⟨some 35, (.load 3 (.tmp 34)), 3, some (29, false)⟩,
      ⟨some 36, (.binOp .eql 3 (.tmp 33) (.tmp 35) 3), 4, some (29, false)⟩,
      ⟨some 37, (.pick (.tmp 29) (.const (.bool true)) (.tmp 36)), 4, none⟩,
      ⟨some 38, (.move (.tmp 37)), 4, none⟩,
      ⟨some 39, (.move (.tmp 5)), 122, some (38, true)⟩,
      ⟨some 40, (.move (.tmp 1)), 22, some (38, true)⟩,
      ⟨some 41, (.move (.tmp 8)), 3, some (38, true)⟩,
      ⟨some 42, (.binOp .sub 3 (.tmp 41) (.const (.int .i64 1)) 3), 3, some (38, true)⟩,
      ⟨some 43, (.call ⟨(.value (.func 83)), #[(.tmp 40), (.tmp 42)], #[22, 3]⟩), 3, some (38, true)⟩,
      ⟨some 44, (.call ⟨(.value (.tmp 39)), #[(.tmp 43)], #[3]⟩), 4, some (38, true)⟩,
      ⟨some 45, (.pick (.tmp 38) (.tmp 44) (.const (.bool false))), 4, none⟩,
      ⟨some 46, (.move (.tmp 45)), 4, none⟩,
      ⟨some 47, (.move (.tmp 6)), 122, some (46, true)⟩,
      ⟨some 48, (.move (.tmp 1)), 22, some (46, true)⟩,
      ⟨some 49, (.move (.tmp 8)), 3, some (46, true)⟩,
      ⟨some 50, (.load 24 (.tmp 2)), 24, some (46, true)⟩,
      ⟨some 51, (.call ⟨(.value (.func 82)), #[(.tmp 50)], #[24]⟩), 3, some (46, true)⟩,
      ⟨some 52, (.binOp .add 3 (.tmp 49) (.tmp 51) 3), 3, some (46, true)⟩,
      ⟨some 53, (.call ⟨(.value (.func 83)), #[(.tmp 48), (.tmp 52)], #[22, 3]⟩), 3, some (46, true)⟩,
      ⟨some 54, (.call ⟨(.value (.tmp 47)), #[(.tmp 53)], #[3]⟩), 4, some (46, true)⟩,
      ⟨some 55, (.pick (.tmp 46) (.tmp 54) (.const (.bool false))), 4, none⟩] [(4, 5), (4, 8), (5, 8), (6, 8), (7, 8), (4, 9), (5, 9), (6, 9), (7, 9), (13, 14), (13, 15), (14, 15), (13, 16), (14, 16), (13, 17), (21, 22), (21, 23), (22, 23), (21, 24), (22, 24), (23, 24), (21, 25), (22, 25), (23, 25), (21, 26), (22, 26), (21, 27)])
    (.cond (.tmp 55)
    (.reg [] [⟨some 56, (.move (.tmp 7)), 22, none⟩,
      ⟨some 57, (.move (.tmp 8)), 3, none⟩,
      ⟨some 58, (.buildSlice 22 1 #[(0, (.tmp 57))]), 22, none⟩,
      ⟨some 59, (.call ⟨(.builtin .append), #[(.tmp 56), (.tmp 58)], #[22, 22]⟩), 22, none⟩,
      ⟨some 7, (.assign (.tmp 59)), 22, none⟩])
    .skip))))
    (.reg [] [⟨some 60, (.binOp .add 3 (.tmp 23) (.const (.int .i64 1)) 3), 3, none⟩,
      ⟨some 23, (.move (.tmp 60)), 3, none⟩])))))))
    (.seq (.reg [] [⟨some 61, (.move (.tmp 7)), 22, none⟩,
      ⟨some 4, (.assign (.tmp 61)), 22, none⟩])
    .ret)))))
theorem C43 {args : List AV} {r : AV} (hn : args.length ≤ 62) (h : vc Try.prog T [] A43 (Fin T [(.tmp 4)] r) ⟨envOf 0 args, []⟩) : CallP Try.prog 43 args r :=
  callP_of tok mixed Try.func43 (by kernel_rfl) (by kernel_rfl) (by kernel_rfl : Try.f43.ntmps = 62) (by kernel_rfl : Try.f43.body.bind (strip 62 (fun _ => [])) = some A43) hn h
def A55 : ACode :=
  (.seq (.reg [] [⟨some 3, (.box 24 (.tmp 0)), 0, none⟩,
      ⟨some 6, (.assign (.const (.slice none 0 0))), 22, none⟩])
    (.seq (.draw [] [⟨some 7, (.move (.tmp 1)), 22, none⟩,
      ⟨some 8, (.move (.tmp 2)), 3, none⟩,
      ⟨some 9, (.slice 22 (.tmp 7) none (some (.tmp 8)) none), 22, none⟩,
      ⟨some 10, (.fieldAddr 24 (.tmp 3) 1), 0, none⟩,
      ⟨some 11, (.load 22 (.tmp 10)), 22, none⟩,
      ⟨some 12, (.move (.tmp 1)), 22, none⟩,
      ⟨some 13, (.move (.tmp 2)), 3, none⟩,
      ⟨some 14, (.load 24 (.tmp 3)), 24, none⟩,
      ⟨some 15, (.call ⟨(.value (.func 82)), #[(.tmp 14)], #[24]⟩), 3, none⟩,
      ⟨some 16, (.binOp .add 3 (.tmp 13) (.tmp 15) 3), 3, none⟩,
      ⟨some 17, (.slice 22 (.tmp 12) (some (.tmp 16)) none none), 22, none⟩,
      ⟨some 18, (.buildSlice 45 3 #[(0, (.tmp 9)), (1, (.tmp 11)), (2, (.tmp 17))]), 45, none⟩,
      ⟨some 19, (.call ⟨(.value (.func 93)), #[(.tmp 18)], #[45]⟩), 22, none⟩,
      ⟨some 6, (.assign (.tmp 19)), 22, none⟩] [(0, 1), (0, 3), (1, 3), (2, 3), (0, 4), (1, 4), (2, 4), (0, 5), (1, 5), (2, 5), (3, 5), (4, 5), (0, 6), (1, 6), (2, 6), (3, 6), (4, 6), (5, 6), (0, 7), (1, 7), (2, 7), (3, 7), (4, 7), (5, 7), (6, 7), (0, 8), (1, 8), (2, 8), (3, 8), (4, 8), (5, 8), (6, 8), (0, 9), (1, 9), (2, 9), (3, 9), (4, 9), (5, 9), (0, 10), (1, 10), (2, 10), (3, 10), (4, 10)])
    .ret))
theorem C55 {args : List AV} {r : AV} (hn : args.length ≤ 20) (h : vc Try.prog T [] A55 (Fin T [(.tmp 6)] r) ⟨envOf 0 args, []⟩) : CallP Try.prog 55 args r :=
  callP_of tok mixed Try.func55 (by kernel_rfl) (by kernel_rfl) (by kernel_rfl : Try.f55.ntmps = 20) (by kernel_rfl : Try.f55.body.bind (strip 20 (fun _ => [])) = some A55) hn h
def A72 : ACode :=
  (.seq (.reg [] [⟨some 3, (.box 24 (.tmp 0)), 0, none⟩,
      ⟨some 6, (.assign (.const (.slice none 0 0))), 22, none⟩,
      ⟨some 7, (.assign (.const (.int .i64 0))), 27, none⟩])
    (.seq (.seq (.reg [] [⟨some 9, (.load 24 (.tmp 3)), 24, none⟩,
      ⟨some 10, (.move (.tmp 1)), 22, none⟩,
      ⟨some 11, (.call ⟨(.value (.func 42)), #[(.tmp 9), (.tmp 10)], #[24, 22]⟩), 27, none⟩,
      ⟨some 8, (.assign (.tmp 11)), 27, none⟩])
    (.seq (.reg [] [⟨some 12, (.move (.tmp 8)), 27, none⟩,
      ⟨some 13, (.binOp .neq 27 (.tmp 12) (.const (.int .i64 0)) 27), 4, none⟩])
    (.cond (.tmp 13)
    (.seq (.reg [] [⟨some 14, (.move (.tmp 8)), 27, none⟩,
      ⟨some 6, (.assign (.const (.slice none 0 0))), 22, none⟩,
      ⟨some 7, (.assign (.tmp 14)), 27, none⟩])
    .ret)
    .skip)))
    (.seq (.seq (.reg [] [⟨some 15, (.load 24 (.tmp 3)), 24, none⟩,
      ⟨some 16, (.move (.tmp 1)), 22, none⟩,
      ⟨some 17, (.call ⟨(.value (.func 43)), #[(.tmp 15), (.tmp 16)], #[24, 22]⟩), 22, none⟩,
      ⟨some 18, (.move (.tmp 2)), 3, none⟩,
      ⟨some 19, (.call ⟨(.value (.func 85)), #[(.tmp 17), (.tmp 18)], #[22, 3]⟩), 4, none⟩,
      ⟨some 20, (.unOp .not 4 (.tmp 19)), 4, none⟩])
    (.cond (.tmp 20)
    (.seq (.reg [] [⟨some 6, (.assign (.const (.slice none 0 0))), 22, none⟩,
      ⟨some 7, (.assign (.const (.int .i64 6))), 27, none⟩])
    .ret)
    .skip))
    (.seq (.reg [] [⟨some 21, (.load 24 (.tmp 3)), 24, none⟩,
      ⟨some 22, (.move (.tmp 1)), 22, none⟩,
      ⟨some 23, (.move (.tmp 2)), 3, none⟩,
      ⟨some 24, (.call ⟨(.value (.func 55)), #[(.tmp 21), (.tmp 22), (.tmp 23)], #[24, 22, 3]⟩), 22, none⟩,
      ⟨some 25, (.call ⟨(.value (.func 53)), #[(.tmp 24)], #[22]⟩), 28, none⟩,
      ⟨some 26, (.extract (.tmp 25) 0), 22, none⟩,
      ⟨some 27, (.extract (.tmp 25) 1), 27, none⟩,
      ⟨some 6, (.assign (.tmp 26)), 22, none⟩,
      ⟨some 7, (.assign (.tmp 27)), 27, none⟩])
    .ret))))
theorem C72 {args : List AV} {r : AV} (hn : args.length ≤ 28) (h : vc Try.prog T [] A72 (Fin T [(.tmp 6), (.tmp 7)] r) ⟨envOf 0 args, []⟩) : CallP Try.prog 72 args r :=
  callP_of tok mixed Try.func72 (by kernel_rfl) (by kernel_rfl) (by kernel_rfl : Try.f72.ntmps = 28) (by kernel_rfl : Try.f72.body.bind (strip 28 (fun _ => [])) = some A72) hn h
def A7 : ACode :=
  (.seq (.reg [] [⟨some 2, (.box 24 (.tmp 0)), 0, none⟩,
      ⟨some 4, (.assign (.const (.slice none 0 0))), 22, none⟩,
      ⟨some 5, (.assign (.const (.int .i64 0))), 27, none⟩])
    (.seq (.seq (.reg [] [⟨some 7, (.load 24 (.tmp 2)), 24, none⟩,
      ⟨some 8, (.move (.tmp 1)), 22, none⟩,
      ⟨some 9, (.call ⟨(.value (.func 42)), #[(.tmp 7), (.tmp 8)], #[24, 22]⟩), 27, none⟩,
      ⟨some 6, (.assign (.tmp 9)), 27, none⟩])
    (.seq (.reg [] [⟨some 10, (.move (.tmp 6)), 27, none⟩,
      ⟨some 11, (.binOp .neq 27 (.tmp 10) (.const (.int .i64 0)) 27), 4, none⟩])
    (.cond (.tmp 11)
    (.seq (.reg [] [⟨some 12, (.move (.tmp 6)), 27, none⟩,
      ⟨some 4, (.assign (.const (.slice none 0 0))), 22, none⟩,
      ⟨some 5, (.assign (.tmp 12)), 27, none⟩])
    .ret)
    .skip)))
    (.seq (.reg [] [⟨some 13, (.load 24 (.tmp 2)), 24, none⟩,
      ⟨some 14, (.move (.tmp 1)), 22, none⟩,
      ⟨some 15, (.call ⟨(.value (.func 43)), #[(.tmp 13), (.tmp 14)], #[24, 22]⟩), 22, none⟩,
      ⟨some 4, (.assign (.tmp 15)), 22, none⟩,
      ⟨some 5, (.assign (.const (.int .i64 0))), 27, none⟩])
    .ret)))
theorem C7 {args : List AV} {r : AV} (hn : args.length ≤ 16) (h : vc Try.prog T [] A7 (Fin T [(.tmp 4), (.tmp 5)] r) ⟨envOf 0 args, []⟩) : CallP Try.prog 7 args r :=
  callP_of tok mixed Try.func7 (by kernel_rfl) (by kernel_rfl) (by kernel_rfl : Try.f7.ntmps = 16) (by kernel_rfl : Try.f7.body.bind (strip 16 (fun _ => [])) = some A7) hn h
end Go.Proofs.Ytkhddecnllcaiaa
end

section
/- Contracts: the checks of package rule. -/
namespace Go.Proofs.Ytkhddecnllcaiaa
open Go.Abs Go
set_option maxRecDepth 20000
set_option maxHeartbeats 2000000
attribute [local irreducible] PreK CondK CallK CallG CallX LoopK

theorem equal_c (a b : List Int) (ha : a.length ≤ big) : CallP Try.prog 89 [ints a, ints b] (bv (decide (a = b))) := by
  refine C89 (by simp) ?_
  generalize hR : decide (a = b) = R
  simp [A89]
  refine CondK.intro (fun h => ?_) (fun h => ?_)
  · simp at h
    have : a ≠ b := fun e => h (by rw [e])
    simp [this] at hR
    simp [hR]
  · simp at h
    simp
    refine LoopK.by (fun i : Nat => ⟨[(13, iv i), (12, iv a.length), (0, ints a), (1, ints b)], []⟩) (fun i => a.length - i) (fun i => i ≤ a.length ∧ decide (a.drop i = b.drop i) = R) 0 (by simpa using hR) (by simp) ?_
    intro i Q' ⟨hi, hc⟩ hq he hr
    simp
    refine CondK.intro (fun h2 => ?_) (fun h2 => ?_)
    · simp at h2
      rw [drop_cons a i h2, drop_cons b i (by omega)] at hc
      simp [h2, show i < b.length by omega]
      refine CondK.intro (fun h3 => ?_) (fun h3 => ?_)
      · simp at h3
        simp [h3] at hc
        simp
        apply hr
        simp [hc]
      · simp at h3
        simp [h3] at hc
        simp
        refine PreK.intro (by simp only [big] at ha; omega) fun _ => ?_
        simp
        exact hq (i + 1) _ ⟨by omega, by simpa using hc⟩ (by omega) (by simp)
    · simp at h2
      rw [List.drop_eq_nil_of_le (by omega), List.drop_eq_nil_of_le (by omega)] at hc
      simp at hc
      simp
      apply he
      simp [hc]

def wordErr (w : List Int) : Int := if 8 < w.length then 3 else if w.any (fun x => !isSound x) then 1 else 0
theorem validateWord_c (w : List Int) (hw : w.length ≤ big) : CallP Try.prog 52 [ints w] (iv (wordErr w)) := by
  refine C52 (by simp) ?_
  generalize hR : wordErr w = R
  unfold wordErr at hR
  simp [A52]
  refine CondK.intro (fun h => ?_) (fun h => ?_)
  · simp at h
    rw [if_pos (by omega)] at hR
    simp [hR]
  · simp at h
    rw [if_neg (by omega)] at hR
    simp
    refine CallX.pure (by simpa using areSounds_c w hw) (by simp) (by simp) ?_
    simp
    refine CondK.intro (fun h2 => ?_) (fun h2 => ?_)
    · have h3 : w.any (fun x => !isSound x) = true := by simpa using h2
      rw [if_pos h3] at hR
      simp [hR]
    · have h3 : ¬ w.any (fun x => !isSound x) = true := by simpa using h2
      rw [if_neg h3] at hR
      simp [hR]

def setF : Option Int → List Int → Bool
  | _, [] => true
  | p, x :: r => isNeighbor x && (match p with | some y => decide (y < x) | none => true) && setF (some x) r
def lessO (p : Option Int) (x : Int) : Bool := match p with | some y => decide (y < x) | none => true
theorem setF_cons (p : Option Int) (x : Int) (r : List Int) : setF p (x :: r) = (isNeighbor x && lessO p x && setF (some x) r) := by cases p <;> rfl
def prevOf (l : List Int) (i : Nat) : Option Int := if i = 0 then none else some (el l (i - 1))
theorem isSet_c (l : List Int) (hl : l.length ≤ big) : CallP Try.prog 88 [ints l] (bv (setF none l)) := by
  refine C88 (by simp) ?_
  generalize hR : setF none l = R
  simp [A88]
  refine LoopK.by (fun i : Nat => ⟨[(7, iv i), (6, iv l.length), (5, ints l), (0, ints l)], []⟩) (fun i => l.length - i) (fun i => i ≤ l.length ∧ setF (prevOf l i) (l.drop i) = R) 0 (by simpa [prevOf] using hR) (by simp) ?_
  intro i Q' ⟨hi, hc⟩ hq he hr
  simp
  refine CondK.intro (fun h => ?_) (fun h => ?_)
  · simp at h
    rw [drop_cons l i h, setF_cons] at hc
    simp [h]
    refine CallX.pure (by simpa using isNeighbor_c (el l i)) (by simp) (by simp) ?_
    simp
    have e1 : ((i : Int) - 1).toNat = i - 1 := by omega
    have h1 : i - 1 < l.length := by omega
    refine PreK.intro (fun a b => ⟨by simp only [big] at hl; omega, a, b⟩) fun _ => ?_
    simp [e1, h1]
    refine PreK.intro (fun a b => ⟨by omega, a, b⟩) fun _ => ?_
    simp [e1, h1]
    have hprev : lessO (prevOf l i) (el l i) = (!(decide (0 < i) && decide (el l i ≤ el l (i - 1)))) := by
      unfold prevOf
      by_cases h0 : i = 0
      · simp [h0, lessO]
      · simp [h0, lessO, show 0 < i by omega]
        by_cases h6 : el l (i - 1) < el l i
        · simp [h6]
        · simp [h6]; omega
    rw [hprev] at hc
    refine PreK.intro (fun a => ⟨fun b => ⟨a, b⟩, a⟩) fun _ => ?_
    simp
    refine CondK.intro (fun h4 => ?_) (fun h4 => ?_)
    · have : (isNeighbor (el l i) && !(decide (0 < i) && decide (el l i ≤ el l (i - 1)))) = false := by
        revert h4; cases isNeighbor (el l i) <;> cases decide (0 < i) <;> cases decide (el l i ≤ el l (i - 1)) <;> simp
      rw [this] at hc
      simp at hc
      simp
      apply hr
      simp [hc]
    · have : (isNeighbor (el l i) && !(decide (0 < i) && decide (el l i ≤ el l (i - 1)))) = true := by
        revert h4; cases isNeighbor (el l i) <;> cases decide (0 < i) <;> cases decide (el l i ≤ el l (i - 1)) <;> simp
      rw [this] at hc
      simp at hc
      simp
      refine PreK.intro (by simp only [big] at hl; omega) fun _ => ?_
      simp
      exact hq (i + 1) _ ⟨by omega, by simpa [prevOf] using hc⟩ (by omega) (by simp)
  · simp at h
    rw [List.drop_eq_nil_of_le (by omega)] at hc
    simp [setF] at hc
    simp
    apply he
    simp [hc]
end Go.Proofs.Ytkhddecnllcaiaa
end

section
/- Contracts: rule.Validate. -/
namespace Go.Proofs.Ytkhddecnllcaiaa
open Go.Abs Go
set_option maxRecDepth 20000
set_option maxHeartbeats 2000000
attribute [local irreducible] PreK CondK CallK CallG CallX LoopK

def ruleErr (r : Rule) : Int :=
  if !isNeighbor r.frm then 1 else if 2 < r.to.length then 3 else if r.to.any (fun x => !isSound x) || !setF none r.left || !setF none r.right then 1
  else if (decide (r.frm = -1) && decide (r.to.length = 0)) || decide (r.to = [r.frm]) then 6 else 0
theorem validate_c (r : Rule) (h1 : r.to.length ≤ big) (h2 : r.left.length ≤ big) (h3 : r.right.length ≤ big) : CallP Try.prog 48 [ruleV r] (iv (ruleErr r)) := by
  refine C48 (by simp) ?_
  generalize hR : ruleErr r = R
  unfold ruleErr at hR
  simp [A48]
  refine CallX.pure (by simpa using isNeighbor_c r.frm) (by simp) (by simp) ?_
  simp
  refine CondK.intro (fun h => ?_) (fun h => ?_)
  · simp at h
    simp [h] at hR
    simp [hR]
  · simp at h
    simp only [h, Bool.not_true, Bool.false_eq_true, if_false] at hR
    simp
    refine CondK.intro (fun h4 => ?_) (fun h4 => ?_)
    · simp at h4
      rw [if_pos (by omega)] at hR
      simp [hR]
    · simp at h4
      rw [if_neg (by omega)] at hR
      simp
      refine CallX.pure (by simpa using areSounds_c r.to h1) (by simp) (by simp) ?_
      simp
      refine CallG.intro (fun _ => by simpa using isSet_c r.left h2) (by simp) (by simp) ?_
      simp
      refine CallG.intro (fun _ => by simpa using isSet_c r.right h3) (by simp) (by simp) ?_
      simp
      refine CondK.intro (fun h5 => ?_) (fun h5 => ?_)
      · rw [if_pos h5] at hR
        simp [hR]
      · rw [if_neg (by rw [h5]; simp)] at hR
        simp
        refine CondK.intro (fun h6 => ?_) (fun h6 => ?_)
        · simp at h6
          simp [h6] at hR
          simp [h6, hR]
          refine CondK.intro (fun _ => ?_) (fun h => by simp at h)
          simp [hR]
        · have h7 : (decide (r.frm = -1) && decide (r.to.length = 0)) = false := by simpa using h6
          rw [h7, Bool.false_or] at hR
          simp
          refine CallX.pure (by simpa using equal_c r.to [r.frm] h1) (by simp) (by simp) ?_
          simp
          refine CondK.intro (fun h8 => ?_) (fun h8 => ?_)
          · simp at h8
            simp [h8] at hR
            simp [hR]
          · simp at h8
            simp [h8] at hR
            simp [hR]
end Go.Proofs.Ytkhddecnllcaiaa
end

section
/- Contracts: sides and places of rules. -/
namespace Go.Proofs.Ytkhddecnllcaiaa
open Go.Abs Go
set_option maxRecDepth 20000
set_option maxHeartbeats 2000000
attribute [local irreducible] PreK CondK CallK CallG CallX LoopK

/-- Which neighbors may be by a set: 7 answers. -/
def mayS (set : List Int) (n : Int) : Bool := decide (set = []) || set.any fun x => decide (n = x)
def sideL (set : List Int) : List Bool := [mayS set (-1), mayS set 0, mayS set 1, mayS set 2, mayS set 3, mayS set 4, mayS set 5]
@[simp] def sideV (s : List Bool) : AV := .agg (s.map bv)
theorem of_c (set : List Int) (hs : set.length ≤ big) : CallP Try.prog 47 [ints set] (sideV (sideL set)) := by
  refine C47 (by simp) ?_
  simp [A47]
  refine LoopK.by (fun i : Nat => ⟨[(5, iv i), (0, ints set), (3, .pt 3 1 0 0), (2, .pt 2 1 0 0)], [(3, some ⟨7, [.agg (((sideL set).take i ++ List.replicate (7 - i) false).map bv)], 1, true⟩), (2, some ⟨7, [.agg ((List.replicate 7 false).map bv)], 1, true⟩)]⟩) (fun i => 7 - i) (fun i => i ≤ 7) 0 (by simp) (by simp [List.replicate, sideL]) ?_
  intro i Q' hi hq he hr
  have hcall : ∀ n : Int, CallP Try.prog 85 [ints set, iv n] (bv (set.any fun x => decide (n = x))) := fun n => contains_c set n hs
  have hm : ∀ n, (bif decide (set = []) then true else set.any fun x => decide (n = x)) = mayS set n := fun n => by
    unfold mayS; cases decide (set = []) <;> rfl
  by_cases h7 : i = 7
  · subst h7
    simp [sideL, List.replicate]
    refine CondK.intro (fun h => by simp at h) (fun _ => ?_)
    simp
    apply he
    simp [sideL]
  · have hcase : i = 0 ∨ i = 1 ∨ i = 2 ∨ i = 3 ∨ i = 4 ∨ i = 5 ∨ i = 6 := by omega
    rcases hcase with rfl | rfl | rfl | rfl | rfl | rfl | rfl
    · simp [sideL, List.replicate]
      refine CondK.intro (fun _ => ?_) (fun h => by simp at h)
      simp
      refine CallG.intro (fun _ => by simpa using hcall (-1)) (by simp) (by simp) ?_
      simp
      exact hq 1 _ (by omega) (by omega) (by simp [sideL, mayS, List.replicate])
    · simp [sideL, List.replicate]
      refine CondK.intro (fun _ => ?_) (fun h => by simp at h)
      simp
      refine CallG.intro (fun _ => by simpa using hcall (0)) (by simp) (by simp) ?_
      simp
      exact hq 2 _ (by omega) (by omega) (by simp [sideL, mayS, List.replicate])
    · simp [sideL, List.replicate]
      refine CondK.intro (fun _ => ?_) (fun h => by simp at h)
      simp
      refine CallG.intro (fun _ => by simpa using hcall (1)) (by simp) (by simp) ?_
      simp
      exact hq 3 _ (by omega) (by omega) (by simp [sideL, mayS, List.replicate])
    · simp [sideL, List.replicate]
      refine CondK.intro (fun _ => ?_) (fun h => by simp at h)
      simp
      refine CallG.intro (fun _ => by simpa using hcall (2)) (by simp) (by simp) ?_
      simp
      exact hq 4 _ (by omega) (by omega) (by simp [sideL, mayS, List.replicate])
    · simp [sideL, List.replicate]
      refine CondK.intro (fun _ => ?_) (fun h => by simp at h)
      simp
      refine CallG.intro (fun _ => by simpa using hcall (3)) (by simp) (by simp) ?_
      simp
      exact hq 5 _ (by omega) (by omega) (by simp [sideL, mayS, List.replicate])
    · simp [sideL, List.replicate]
      refine CondK.intro (fun _ => ?_) (fun h => by simp at h)
      simp
      refine CallG.intro (fun _ => by simpa using hcall (4)) (by simp) (by simp) ?_
      simp
      exact hq 6 _ (by omega) (by omega) (by simp [sideL, mayS, List.replicate])
    · simp [sideL, List.replicate]
      refine CondK.intro (fun _ => ?_) (fun h => by simp at h)
      simp
      refine CallG.intro (fun _ => by simpa using hcall (5)) (by simp) (by simp) ?_
      simp
      exact hq 7 _ (by omega) (by omega) (by simp [sideL, mayS, List.replicate])
end Go.Proofs.Ytkhddecnllcaiaa
end

section
/- Contracts: sides and places of rules, part 2. -/
namespace Go.Proofs.Ytkhddecnllcaiaa
open Go.Abs Go
set_option maxRecDepth 20000
set_option maxHeartbeats 2000000
attribute [local irreducible] PreK CondK CallK CallG CallX LoopK

end Go.Proofs.Ytkhddecnllcaiaa
end

section
/- Functions of the cut as the value layer reads them. (written by gen.py) -/
set_option maxRecDepth 20000
namespace Go.Proofs.Ytkhddecnllcaiaa
open Go.Abs Go

def A81 : ACode :=
  (.seq (.reg [] [⟨some 2, (.box 76 (.tmp 0)), 0, none⟩,
      ⟨some 4, (.assign (.const (.bool false))), 4, none⟩])
    (.seq (.reg [] [⟨some 5, (.move (.tmp 1)), 3, none⟩,
      ⟨some 6, (.binOp .add 3 (.tmp 5) (.const (.int .i64 1)) 3), 3, none⟩,
      ⟨some 7, (.indexAddr 76 (.tmp 2) (.tmp 6)), 0, none⟩,
      ⟨some 8, (.load 4 (.tmp 7)), 4, none⟩,
      ⟨some 4, (.assign (.tmp 8)), 4, none⟩])
    .ret))
theorem C81 {args : List AV} {r : AV} (hn : args.length ≤ 9) (h : vc Try.prog T [] A81 (Fin T [(.tmp 4)] r) ⟨envOf 0 args, []⟩) : CallP Try.prog 81 args r :=
  callP_of tok mixed Try.func81 (by kernel_rfl) (by kernel_rfl) (by kernel_rfl : Try.f81.ntmps = 9) (by kernel_rfl : Try.f81.body.bind (strip 9 (fun _ => [])) = some A81) hn h

end Go.Proofs.Ytkhddecnllcaiaa
end

section
/- Contracts: sides and places of rules, part 3. -/
namespace Go.Proofs.Ytkhddecnllcaiaa
open Go.Abs Go
set_option maxRecDepth 20000
set_option maxHeartbeats 2000000
attribute [local irreducible] PreK CondK CallK CallG CallX LoopK

theorem may_c (s : List Bool) (hs : s.length = 7) (n : Int) (h0 : -1 ≤ n) (h1 : n ≤ 5) : CallP Try.prog 81 [sideV s, iv n] (bv (s.getD (n + 1).toNat false)) := by
  refine C81 (by simp) ?_
  simp [A81]
  refine PreK.intro hs fun _ => ?_
  simp
  refine PreK.intro (by omega) fun _ => ?_
  simp
  refine PreK.intro (by omega) fun _ => ?_
  simp [hs]
  refine PreK.intro (by omega) fun _ => ?_
  have hlt : (n + 1).toNat < s.length := by omega
  simp [hlt]
end Go.Proofs.Ytkhddecnllcaiaa
end

section
/- Contracts: applying rules. -/
namespace Go.Proofs.Ytkhddecnllcaiaa
open Go.Abs Go
set_option maxRecDepth 20000
set_option maxHeartbeats 2000000
attribute [local irreducible] PreK CondK CallK CallG CallX LoopK

def putW (r : Rule) (w : List Int) (i : Nat) : List Int := w.take i ++ r.to ++ w.drop (i + (long r).toNat)
theorem put_c (r : Rule) (w : List Int) (i : Nat) (hi : i + (long r).toNat ≤ w.length) (hw : w.length ≤ 400) (ht : r.to.length ≤ 400) : CallP Try.prog 55 [ruleV r, ints w, iv i] (ints (putW r w i)) := by
  refine C55 (by simp) ?_
  have hl : long r = 0 ∨ long r = 1 := by unfold long; split <;> simp
  simp [A55, show i ≤ w.length by omega]
  refine CallK.intro (by simpa using long_c r) (by simp) (by simp) ?_
  simp
  have e1 : ((i : Int) + long r).toNat = i + (long r).toNat := by omega
  refine PreK.intro (by omega) fun _ => ?_
  simp
  refine PreK.intro (by omega) fun _ => ?_
  simp [e1]
  refine CallK.intro (by simpa [List.map_take, List.map_drop] using (concat_o [w.take i, r.to, w.drop (i + (long r).toNat)] (by simp) (by simp; omega)).toP) (by simp) (by simp) ?_
  simp [putW]

def shortErr (w : List Int) : Int := if 8 < w.length then 3 else 0
theorem short_c (w : List Int) : CallP Try.prog 53 [ints w] (.tup [ints (if 8 < w.length then [] else w), iv (shortErr w)]) := by
  refine C53 (by simp) ?_
  simp [A53]
  refine CondK.intro (fun h => ?_) (fun h => ?_)
  · simp at h
    have : 8 < w.length := by omega
    simp [shortErr, this]
  · simp at h
    have : ¬ 8 < w.length := by omega
    simp [shortErr, this]
end Go.Proofs.Ytkhddecnllcaiaa
end

section
/- Contracts: a rule and a word. -/
namespace Go.Proofs.Ytkhddecnllcaiaa
open Go.Abs Go
set_option maxRecDepth 20000
set_option maxHeartbeats 2000000
attribute [local irreducible] PreK CondK CallK CallG CallX LoopK

def wordedErr (r : Rule) (w : List Int) : Int := if ruleErr r ≠ 0 then ruleErr r else wordErr w
def Rule.small (r : Rule) : Prop := r.to.length ≤ 1000 ∧ r.left.length ≤ 1000 ∧ r.right.length ≤ 1000
theorem validate_s {r : Rule} (h : r.small) : CallP Try.prog 48 [ruleV r] (iv (ruleErr r)) :=
  validate_c r (by have := h.1; simp only [big]; omega) (by have := h.2.1; simp only [big]; omega) (by have := h.2.2; simp only [big]; omega)
theorem worded_c (r : Rule) (w : List Int) (h : r.small) (hw : w.length ≤ 1000) : CallP Try.prog 42 [ruleV r, ints w] (iv (wordedErr r w)) := by
  refine C42 (by simp) ?_
  generalize hR : wordedErr r w = R
  unfold wordedErr at hR
  simp [A42]
  refine CallX.pure (by simpa using validate_s h) (by simp) (by simp) ?_
  simp
  refine CondK.intro (fun h1 => ?_) (fun h1 => ?_)
  · simp at h1
    simp [h1] at hR
    simp [hR]
  · simp at h1
    simp [h1] at hR
    simp
    refine CallX.pure (by simpa using validateWord_c w (by simp only [big]; omega)) (by simp) (by simp) ?_
    simp [hR]
end Go.Proofs.Ytkhddecnllcaiaa
end

section
/- Contracts: the places of a rule. -/
namespace Go.Proofs.Ytkhddecnllcaiaa
open Go.Abs Go

theorem sideL_get (set : List Int) (n : Int) (h0 : -1 ≤ n) (h1 : n ≤ 5) : (sideL set).getD (n + 1).toNat false = mayS set n := by
  have : n = -1 ∨ n = 0 ∨ n = 1 ∨ n = 2 ∨ n = 3 ∨ n = 4 ∨ n = 5 := by omega
  rcases this with rfl | rfl | rfl | rfl | rfl | rfl | rfl <;> rfl
theorem mayS_c (set : List Int) (n : Int) (h0 : -1 ≤ n) (h1 : n ≤ 5) : CallP Try.prog 81 [sideV (sideL set), iv n] (bv (mayS set n)) := by
  rw [← sideL_get set n h0 h1]
  exact may_c (sideL set) rfl n h0 h1
/-- Whether a rule may be applied at a place. -/
def isAt (r : Rule) (w : List Int) (i : Nat) : Bool :=
  (decide (r.frm = -1) || decide (el w i = r.frm)) && mayS r.left (atW w ((i : Int) - 1)) && mayS r.right (atW w ((i : Int) + long r))
theorem atW_range (w : List Int) (hw : w.all isSound = true) (i : Int) : -1 ≤ atW w i ∧ atW w i ≤ 5 := by
  unfold atW
  split
  · rename_i h
    have hlt : i.toNat < w.length := by omega
    have := List.all_eq_true.1 hw (el w i.toNat) (by rw [el_eq w _ hlt]; exact List.getElem_mem hlt)
    simp [isSound] at this
    omega
  · omega
end Go.Proofs.Ytkhddecnllcaiaa
end

section
/- Contracts: the places of a rule. -/
set_option maxRecDepth 20000
namespace Go.Proofs.Ytkhddecnllcaiaa
open Go.Abs Go
set_option maxRecDepth 20000
set_option maxHeartbeats 2000000
attribute [local irreducible] PreK CondK CallK CallG CallX LoopK

def placesF (r : Rule) (w : List Int) : Nat → Nat → List Int
  | _, 0 => []
  | i, n + 1 => if isAt r w i then (i : Int) :: placesF r w (i + 1) n else placesF r w (i + 1) n
set_option maxHeartbeats 1000000 in
theorem places_c (r : Rule) (w : List Int) (h : r.small) (hw : w.length ≤ 1000) (hs : w.all isSound = true) :
    CallP Try.prog 43 [ruleV r, ints w] (ints (placesF r w 0 (w.length + 1 - (long r).toNat))) := by
  refine C43 (by simp) ?_
  generalize hR : placesF r w 0 (w.length + 1 - (long r).toNat) = R
  have hl : long r = 0 ∨ long r = 1 := by unfold long; split <;> simp
  have hb : ∀ {l : List Int}, l.length ≤ 1000 → l.length ≤ big := fun h => by simp only [big]; omega
  simp [A43]
  refine CallK.intro (by simpa using of_c r.left (hb h.2.1)) (by simp) (by simp) ?_
  simp
  refine CallK.intro (by simpa using of_c r.right (hb h.2.2)) (by simp) (by simp) ?_
  simp
  refine PreK.intro (by omega) fun _ => ?_
  simp
  refine CallX.pure (by simpa using long_c r) (by simp) (by simp) ?_
  simp
  refine PreK.intro (by omega) fun _ => ?_
  simp
  refine LoopK.by (ι := Nat × Nat × List Int) (fun i => ⟨[(23, iv i.1), (22, iv (w.length + 1 - long r)), (1, ints w), (5, .fn 81 [sideV (sideL r.left)] []), (6, .fn 81 [sideV (sideL r.right)] []), (2, .pt 2 1 0 0), (7, .sl 7 i.2.1 0 i.2.2.length)],
      [(7, some ⟨1, i.2.2.map iv, i.2.1, false⟩), (2, some ⟨4, [ruleV r], 1, true⟩)]⟩) (fun i => w.length + 1 - (long r).toNat - i.1)
    (fun i => i.1 ≤ w.length + 1 - (long r).toNat ∧ i.2.2.length ≤ i.1 ∧ i.2.2 ++ placesF r w i.1 (w.length + 1 - (long r).toNat - i.1) = R) (0, 1, []) (by simpa using hR) (by simp) ?_
  intro ⟨i, ver, acc⟩ Q' ⟨hi, ha, hc⟩ hq he hr
  dsimp only at hi ha hc
  simp
  refine CondK.intro (fun h7 => ?_) (fun h7 => ?_)
  · have h8 : i < w.length + 1 - (long r).toNat := by simp at h7; omega
    rw [show w.length + 1 - (long r).toNat - i = (w.length + 1 - (long r).toNat - (i + 1)) + 1 by omega, placesF] at hc
    simp
    have hlong : r.frm ≠ -1 → i < w.length := fun hne => by simp [long, hne] at h8; omega
    have hat1 := atW_range w hs ((i : Int) - 1)
    have hat2 := atW_range w hs ((i : Int) + long r)
    have hcl : CallP Try.prog 81 [sideV (sideL r.left), iv (atW w ((i : Int) - 1))] (bv (mayS r.left (atW w ((i : Int) - 1)))) := mayS_c _ _ hat1.1 hat1.2
    have hcr : CallP Try.prog 81 [sideV (sideL r.right), iv (atW w ((i : Int) + long r))] (bv (mayS r.right (atW w ((i : Int) + long r)))) := mayS_c _ _ hat2.1 hat2.2
    by_cases hlt : i < w.length
    · simp [hlt]
      refine PreK.intro (by omega) fun _ => ?_
      try simp 
      refine CallG.intro (fun _ => by simpa using at_c w (i - 1) hw) (by simp) (by simp) ?_
      try simp 
      refine CallG.intro (fun _ => by simpa using hcl) (by simp) (by simp) ?_
      try simp 
      refine CallG.intro (fun _ => by simpa using long_c r) (by simp) (by simp) ?_
      try simp 
      refine PreK.intro (by first | omega | (intros; first | omega | (refine ⟨by omega, ?_⟩; simp_all; done) | (simp_all; done) | (simp_all; omega))) fun _ => ?_
      try simp 
      refine CallG.intro (fun _ => by simpa using at_c w (i + long r) hw) (by simp) (by simp) ?_
      try simp 
      refine CallG.intro (fun _ => by simpa using hcr) (by simp) (by simp) ?_
      try simp 
      refine CondK.intro (fun h9 => ?_) (fun h9 => ?_)
      · have hat : isAt r w i = true := by simpa [isAt] using h9
        rw [if_pos hat] at hc
        try simp 
        refine PreK.intro (by omega) fun _ => ?_
        try simp 
        refine PreK.intro (by omega) fun _ => ?_
        try simp 
        exact hq (i + 1, ver + 1, acc ++ [(i : Int)]) _ ⟨by dsimp only; omega, by simp; omega, by simpa using hc⟩ (by dsimp only; omega) (by simp)
      · have hat : isAt r w i = false := by simpa only [isAt] using h9
        rw [if_neg (by simp [hat])] at hc
        try simp 
        refine PreK.intro (by omega) fun _ => ?_
        try simp 
        exact hq (i + 1, ver, acc) _ ⟨by dsimp only; omega, by dsimp only; omega, by simpa using hc⟩ (by dsimp only; omega) (by simp)
    · have hin : i = w.length := by omega
      subst hin
      have hf : r.frm = -1 := Decidable.byContradiction fun hne => absurd (hlong hne) hlt
      have hlc : CallP Try.prog 82 [.agg [iv (-1), ints r.to, ints r.left, ints r.right]] (iv (long r)) := by simpa [hf] using long_c r
      simp [hf]
      refine PreK.intro (by first | omega | (intros; first | omega | (refine ⟨by omega, ?_⟩; simp_all; done) | (simp_all; done) | (simp_all; omega))) fun _ => ?_
      try simp 
      refine CallG.intro (fun _ => by simpa using at_c w (w.length - 1) hw) (by simp) (by simp) ?_
      try simp 
      refine CallG.intro (fun _ => by simpa using hcl) (by simp) (by simp) ?_
      try simp 
      refine CallG.intro (fun _ => by simpa using hlc) (by simp) (by simp) ?_
      try simp 
      refine PreK.intro (by first | omega | (intros; first | omega | (refine ⟨by omega, ?_⟩; simp_all; done) | (simp_all; done) | (simp_all; omega))) fun _ => ?_
      try simp 
      refine CallG.intro (fun _ => by simpa using at_c w (w.length + long r) hw) (by simp) (by simp) ?_
      try simp 
      refine CallG.intro (fun _ => by simpa using hcr) (by simp) (by simp) ?_
      try simp 
      refine CondK.intro (fun h9 => ?_) (fun h9 => ?_)
      · have hat : isAt r w w.length = true := by simpa [isAt, hf] using h9
        rw [if_pos hat] at hc
        try simp 
        refine PreK.intro (by omega) fun _ => ?_
        try simp 
        refine PreK.intro (by omega) fun _ => ?_
        try simp 
        exact hq (w.length + 1, ver + 1, acc ++ [(w.length : Int)]) _ ⟨by dsimp only; omega, by simp; omega, by simpa using hc⟩ (by dsimp only; omega) (by simp [hf])
      · have hat : isAt r w w.length = false := by simpa only [isAt, hf, decide_true, Bool.true_or, Bool.true_and] using h9
        rw [if_neg (by simp [hat])] at hc
        try simp 
        refine PreK.intro (by omega) fun _ => ?_
        try simp 
        exact hq (w.length + 1, ver, acc) _ ⟨by dsimp only; omega, by dsimp only; omega, by simpa using hc⟩ (by dsimp only; omega) (by simp [hf])
  · have h8 : ¬ i < w.length + 1 - (long r).toNat := by simp at h7; omega
    have : w.length + 1 - (long r).toNat - i = 0 := by omega
    rw [this, placesF] at hc
    simp at hc
    apply he
    simp [hc]
end Go.Proofs.Ytkhddecnllcaiaa
end

section
/- Plain models of rules, steps and grounds, and what holds of them. -/
namespace Go.Proofs.Ytkhddecnllcaiaa
open Go.Abs Go

/-! ### steps -/
def placeB (r : Rule) (w : List Int) (i : Int) : Bool := decide (0 ≤ i) && (decide (i + long r ≤ w.length) && isAt r w i.toNat)
def applyM (r : Rule) (w : List Int) (p : Int) : List Int × Int :=
  if wordedErr r w ≠ 0 then ([], wordedErr r w) else if placeB r w p = false then ([], 6) else if 8 < (putW r w p.toNat).length then ([], 3) else (putW r w p.toNat, 0)

structure Move where
  step : Step
  word : List Int
deriving DecidableEq
instance : Inhabited Move := ⟨⟨⟨0, 0⟩, []⟩⟩

def moveAt (r : Rule) (w : List Int) (k : Nat) (i : Nat) : List Move := if (applyM r w i).2 = 0 then [⟨⟨k, i⟩, (applyM r w i).1⟩] else []
/-- The steps of one rule at n places from i on. -/
def movesR (r : Rule) (w : List Int) (k : Nat) : Nat → Nat → List Move
  | _, 0 => []
  | i, n + 1 => moveAt r w k i ++ movesR r w k (i + 1) n
/-- The steps of rules, the first of which has the number k. -/
def movesF (w : List Int) : Nat → List Rule → List Move
  | _, [] => []
  | k, r :: s => movesR r w k 0 (w.length + 1) ++ movesF w (k + 1) s
def movesM (s : List Rule) (w : List Int) : List Move := movesF w 0 s

def firstErr : List Rule → Int
  | [] => 0
  | r :: s => if ruleErr r ≠ 0 then ruleErr r else firstErr s
def sysErr (s : List Rule) : Int := if 6 < s.length then 3 else firstErr s
def swErr (s : List Rule) (w : List Int) : Int := if sysErr s ≠ 0 then sysErr s else wordErr w
def stepsM (s : List Rule) (w : List Int) : List Step := if swErr s w ≠ 0 then [] else (movesM s w).map (·.step)

/-! ### grounds -/
def mayAll : List Int := [-1, 0, 1, 2, 3, 4, 5]
def insideM (a b : List Int) : Bool := mayAll.all fun n => !mayS a n || mayS b n
def twoErr (r s : Rule) : Int := if ruleErr r ≠ 0 then ruleErr r else ruleErr s
def specM (r s : Rule) : Bool := decide (twoErr r s = 0) && (decide (r.frm = s.frm) && (insideM r.left s.left && insideM r.right s.right))
def lastPlace (a : Step) (rb : Rule) (b : Step) : Int := if b.place < a.place then (if 0 ≤ rb.frm then a.place + rb.to.length - 1 else a.place + rb.to.length) else a.place
def lastsM (w : List Int) (ra : Rule) (a : Step) (rb : Rule) (b : Step) : Bool := decide ((applyM ra (applyM rb w b.place).1 (lastPlace a rb b)).2 = 0)
def proM (w : List Int) (g : Int) (ra : Rule) (a : Step) (rb : Rule) (b : Step) : Bool :=
  if g = 1 then decide (a.place = b.place) && (specM ra rb && !specM rb ra)
  else if g = 2 then lastsM w ra a rb b && !lastsM w rb b ra a
  else if g = 3 then decide (a.place < b.place) else decide (b.rule < a.rule)
def decideM (w : List Int) (g : Int) (ra : Rule) (a : Step) (rb : Rule) (b : Step) : Int := if proM w g ra a rb b then 1 else if proM w g rb b ra a then -1 else 0
def beatsM (w : List Int) : List Int → Rule → Step → Rule → Step → Int
  | [], _, _, _, _ => 0
  | g :: gs, ra, a, rb, b => if decideM w g ra a rb b ≠ 0 then decideM w g ra a rb b * g else beatsM w gs ra a rb b
/-- The ground by which a step beats another one, by a system. -/
def beatsS (s : List Rule) (w gs : List Int) (a b : Step) : Int := beatsM w gs (el s a.rule.toNat) a (el s b.rule.toNat) b

/-! ### who wins -/
/-- Whether the candidate beats all others of a list. -/
def topOf (s : List Rule) (w gs : List Int) (l : List Step) (a : Step) : Bool := l.all fun b => decide (b = a) || decide (0 < beatsS s w gs a b)
def bestM (s : List Rule) (w gs : List Int) (l : List Step) : Option Step := l.find? (topOf s w gs l)
/-- The choice for a word. -/
def choiceM (s : List Rule) (w gs : List Int) : Option Choice :=
  match stepsM s w with
  | [] => none
  | c :: l => match bestM s w gs (c :: l) with
    | none => some ⟨(el (c :: l) l.length).rule, (el (c :: l) l.length).place, 0⟩
    | some a => some ⟨a.rule, a.place, match (c :: l).find? (fun b => decide (b ≠ a)) with | some b => beatsS s w gs a b | none => 0⟩
def nextW (s : List Rule) (w : List Int) (c : Choice) : List Int := (applyM (el s c.rule.toNat) w c.place).1
end Go.Proofs.Ytkhddecnllcaiaa
end

section
/- Functions of the cut as the value layer reads them. (written by gen.py) -/
set_option maxRecDepth 20000
namespace Go.Proofs.Ytkhddecnllcaiaa
open Go.Abs Go

def A64 : ACode :=
  (.seq (.reg [] [⟨some 2, (.assign (.const (.int .i64 0))), 27, none⟩])
    (.seq (.seq (.reg [] [⟨some 6, (.move (.tmp 0)), 41, none⟩,
      ⟨some 7, (.call ⟨(.builtin .len), #[(.tmp 6)], #[41]⟩), 3, none⟩,
      ⟨some 8, (.binOp .gtr 3 (.tmp 7) (.const (.int .i64 6)) 3), 4, none⟩])
    (.cond (.tmp 8)
    (.seq (.reg [] [⟨some 2, (.assign (.const (.int .i64 3))), 27, none⟩])
    .ret)
    .skip))
    (.seq (.seq (.reg [] [⟨some 9, (.move (.tmp 0)), 41, none⟩,
      ⟨some 10, (.call ⟨(.builtin .len), #[(.tmp 9)], #[41]⟩), 3, none⟩,
      ⟨some 11, (.move (.const (.int .i64 0))), 3, none⟩])
    (.block 0 (.loop (.seq (.reg [] [⟨some 12, (.binOp .lss 3 (.tmp 11) (.tmp 10) 3), 0, none⟩])
    (.seq (.cond (.tmp 12)
    .skip
    (.exit 0))
    (.seq (.block 1 (.seq (.reg [] [⟨some 13, (.indexAddr 41 (.tmp 9) (.tmp 11)), 0, none⟩,
      ⟨some 14, (.load 24 (.tmp 13)), 24, none⟩,
      ⟨some 4, (.alloc 24), 0, none⟩,
      ⟨none, (.store 24 (.tmp 4) (.tmp 14)), 0, none⟩])
    (.seq (.reg [] [⟨some 15, (.load 24 (.tmp 4)), 24, none⟩,
      ⟨some 16, (.call ⟨(.value (.func 48)), #[(.tmp 15)], #[24]⟩), 27, none⟩,
      ⟨some 5, (.assign (.tmp 16)), 27, none⟩])
    (.seq (.reg [] [⟨some 17, (.move (.tmp 5)), 27, none⟩,
      ⟨some 18, (.binOp .neq 27 (.tmp 17) (.const (.int .i64 0)) 27), 4, none⟩])
    (.cond (.tmp 18)
    (.seq (.reg [] [⟨some 19, (.move (.tmp 5)), 27, none⟩,
      ⟨some 2, (.assign (.tmp 19)), 27, none⟩])
    .ret)
    .skip)))))
    (.reg [] [⟨some 20, (.binOp .add 3 (.tmp 11) (.const (.int .i64 1)) 3), 3, none⟩,
      ⟨some 11, (.move (.tmp 20)), 3, none⟩])))))))
    (.seq (.reg [] [⟨some 2, (.assign (.const (.int .i64 0))), 27, none⟩])
    .ret))))
theorem C64 {args : List AV} {r : AV} (hn : args.length ≤ 21) (h : vc Try.prog T [] A64 (Fin T [(.tmp 2)] r) ⟨envOf 0 args, []⟩) : CallP Try.prog 64 args r :=
  callP_of tok mixed Try.func64 (by kernel_rfl) (by kernel_rfl) (by kernel_rfl : Try.f64.ntmps = 21) (by kernel_rfl : Try.f64.body.bind (strip 21 (fun _ => [])) = some A64) hn h
def A68 : ACode :=
  (.seq (.reg [] [⟨some 4, (.assign (.const (.slice none 0 0))), 105, none⟩])
    (.seq (.reg [] [⟨some 5, (.assign (.const (.slice none 0 0))), 105, none⟩])
    (.seq (.seq (.reg [] [⟨some 14, (.move (.tmp 0)), 41, none⟩,
      ⟨some 15, (.call ⟨(.builtin .len), #[(.tmp 14)], #[41]⟩), 3, none⟩,
      ⟨some 16, (.move (.const (.int .i64 0))), 3, none⟩])
    (.block 0 (.loop (.seq (.reg [] [⟨some 17, (.binOp .lss 3 (.tmp 16) (.tmp 15) 3), 0, none⟩])
    (.seq (.cond (.tmp 17)
    .skip
    (.exit 0))
    (.seq (.block 1 (.seq (.reg [] [⟨some 18, (.move (.tmp 16)), 3, none⟩,
      ⟨some 19, (.indexAddr 41 (.tmp 14) (.tmp 16)), 0, none⟩,
      ⟨some 20, (.load 24 (.tmp 19)), 24, none⟩,
      ⟨some 7, (.alloc 24), 0, none⟩,
      ⟨some 6, (.assign (.tmp 18)), 3, none⟩,
      ⟨none, (.store 24 (.tmp 7) (.tmp 20)), 0, none⟩])
    (.seq (.reg [] [⟨some 22, (.load 24 (.tmp 7)), 24, none⟩,
      ⟨some 23, (.move (.tmp 1)), 22, none⟩,
      ⟨some 24, (.call ⟨(.value (.func 7)), #[(.tmp 22), (.tmp 23)], #[24, 22]⟩), 28, none⟩,
      ⟨some 21, (.move (.tmp 24)), 28, none⟩,
      ⟨some 25, (.extract (.tmp 21) 0), 22, none⟩,
      ⟨some 26, (.extract (.tmp 21) 1), 27, none⟩,
      ⟨some 8, (.assign (.tmp 25)), 22, none⟩,
      ⟨some 9, (.assign (.tmp 26)), 27, none⟩])
    (.seq (.reg [] [⟨some 27, (.move (.tmp 8)), 22, none⟩,
      ⟨some 28, (.call ⟨(.builtin .len), #[(.tmp 27)], #[22]⟩), 3, none⟩,
      ⟨some 29, (.move (.const (.int .i64 0))), 3, none⟩])
    (.block 2 (.loop (.seq (.reg [] [⟨some 30, (.binOp .lss 3 (.tmp 29) (.tmp 28) 3), 0, none⟩])
    (.seq (.cond (.tmp 30)
    .skip
    (.exit 2))
    (.seq (.block 3 (.seq (.reg [] [⟨some 31, (.indexAddr 22 (.tmp 27) (.tmp 29)), 0, none⟩,
      ⟨some 32, (.load 3 (.tmp 31)), 3, none⟩,
      ⟨some 11, (.assign (.tmp 32)), 3, none⟩])
    (.seq (.reg [] [⟨some 34, (.load 24 (.tmp 7)), 24, none⟩,
      ⟨some 35, (.move (.tmp 1)), 22, none⟩,
      ⟨some 36, (.move (.tmp 11)), 3, none⟩,
      ⟨some 37, (.call ⟨(.value (.func 72)), #[(.tmp 34), (.tmp 35), (.tmp 36)], #[24, 22, 3]⟩), 28, none⟩,
      ⟨some 33, (.move (.tmp 37)), 28, none⟩,
      ⟨some 38, (.extract (.tmp 33) 0), 22, none⟩,
      ⟨some 39, (.extract (.tmp 33) 1), 27, none⟩,
      ⟨some 12, (.assign (.tmp 38)), 22, none⟩,
      ⟨some 13, (.assign (.tmp 39)), 27, none⟩])
    (.seq (.reg [] [⟨some 40, (.move (.tmp 13)), 27, none⟩,
      ⟨some 41, (.binOp .eql 27 (.tmp 40) (.const (.int .i64 0)) 27), 4, none⟩])
    (.cond (.tmp 41)
    (.reg [] [⟨some 42, (.move (.tmp 5)), 105, none⟩,
      ⟨some 43, (.move (.tmp 6)), 3, none⟩,
      ⟨some 44, (.move (.tmp 11)), 3, none⟩,
      ⟨some 45, (.build 108 #[(0, (.tmp 43)), (1, (.tmp 44))]), 108, none⟩,
      ⟨some 46, (.move (.tmp 12)), 22, none⟩,
      ⟨some 47, (.build 114 #[(0, (.tmp 45)), (1, (.tmp 46))]), 114, none⟩,
      ⟨some 48, (.buildSlice 105 1 #[(0, (.tmp 47))]), 105, none⟩,
      ⟨some 49, (.call ⟨(.builtin .append), #[(.tmp 42), (.tmp 48)], #[105, 105]⟩), 105, none⟩,
      ⟨some 5, (.assign (.tmp 49)), 105, none⟩])
    .skip)))))
    (.reg [] [⟨some 50, (.binOp .add 3 (.tmp 29) (.const (.int .i64 1)) 3), 3, none⟩,
      ⟨some 29, (.move (.tmp 50)), 3, none⟩]))))))))))
    (.reg [] [⟨some 51, (.binOp .add 3 (.tmp 16) (.const (.int .i64 1)) 3), 3, none⟩,
      ⟨some 16, (.move (.tmp 51)), 3, none⟩])))))))
    (.seq (.reg [] [⟨some 52, (.move (.tmp 5)), 105, none⟩,
      ⟨some 4, (.assign (.tmp 52)), 105, none⟩])
    .ret))))
theorem C68 {args : List AV} {r : AV} (hn : args.length ≤ 53) (h : vc Try.prog T [] A68 (Fin T [(.tmp 4)] r) ⟨envOf 0 args, []⟩) : CallP Try.prog 68 args r :=
  callP_of tok mixed Try.func68 (by kernel_rfl) (by kernel_rfl) (by kernel_rfl : Try.f68.ntmps = 53) (by kernel_rfl : Try.f68.body.bind (strip 53 (fun _ => [])) = some A68) hn h
def A67 : ACode :=
  (.seq (.reg [] [⟨some 4, (.assign (.const (.int .i64 0))), 27, none⟩])
    (.seq (.seq (.reg [] [⟨some 9, (.move (.tmp 0)), 41, none⟩,
      ⟨some 10, (.call ⟨(.value (.func 64)), #[(.tmp 9)], #[41]⟩), 27, none⟩,
      ⟨some 5, (.assign (.tmp 10)), 27, none⟩])
    (.seq (.reg [] [⟨some 11, (.move (.tmp 5)), 27, none⟩,
      ⟨some 12, (.binOp .neq 27 (.tmp 11) (.const (.int .i64 0)) 27), 4, none⟩])
    (.cond (.tmp 12)
    (.seq (.reg [] [⟨some 13, (.move (.tmp 5)), 27, none⟩,
      ⟨some 4, (.assign (.tmp 13)), 27, none⟩])
    .ret)
    .skip)))
    (.seq (.seq (.reg [] [⟨some 14, (.move (.tmp 1)), 45, none⟩,
      ⟨some 15, (.call ⟨(.builtin .len), #[(.tmp 14)], #[45]⟩), 3, none⟩,
      ⟨some 16, (.move (.const (.int .i64 0))), 3, none⟩])
    (.block 0 (.loop (.seq (.reg [] [⟨some 17, (.binOp .lss 3 (.tmp 16) (.tmp 15) 3), 0, none⟩])
    (.seq (.cond (.tmp 17)
    .skip
    (.exit 0))
    (.seq (.block 1 (.seq (.reg [] [⟨some 18, (.indexAddr 45 (.tmp 14) (.tmp 16)), 0, none⟩,
      ⟨some 19, (.load 22 (.tmp 18)), 22, none⟩,
      ⟨some 7, (.assign (.tmp 19)), 22, none⟩])
    (.seq (.reg [] [⟨some 20, (.move (.tmp 7)), 22, none⟩,
      ⟨some 21, (.call ⟨(.value (.func 52)), #[(.tmp 20)], #[22]⟩), 27, none⟩,
      ⟨some 8, (.assign (.tmp 21)), 27, none⟩])
    (.seq (.reg [] [⟨some 22, (.move (.tmp 8)), 27, none⟩,
      ⟨some 23, (.binOp .neq 27 (.tmp 22) (.const (.int .i64 0)) 27), 4, none⟩])
    (.cond (.tmp 23)
    (.seq (.reg [] [⟨some 24, (.move (.tmp 8)), 27, none⟩,
      ⟨some 4, (.assign (.tmp 24)), 27, none⟩])
    .ret)
    .skip)))))
    (.reg [] [⟨some 25, (.binOp .add 3 (.tmp 16) (.const (.int .i64 1)) 3), 3, none⟩,
      ⟨some 16, (.move (.tmp 25)), 3, none⟩])))))))
    (.seq (.reg [] [⟨some 4, (.assign (.const (.int .i64 0))), 27, none⟩])
    .ret))))
theorem C67 {args : List AV} {r : AV} (hn : args.length ≤ 26) (h : vc Try.prog T [] A67 (Fin T [(.tmp 4)] r) ⟨envOf 0 args, []⟩) : CallP Try.prog 67 args r :=
  callP_of tok mixed Try.func67 (by kernel_rfl) (by kernel_rfl) (by kernel_rfl : Try.f67.ntmps = 26) (by kernel_rfl : Try.f67.body.bind (strip 26 (fun _ => [])) = some A67) hn h

end Go.Proofs.Ytkhddecnllcaiaa
end

section
/- Contracts: rule.Places, rule.Apply and the checks of systems. -/
namespace Go.Proofs.Ytkhddecnllcaiaa
open Go.Abs Go
set_option maxRecDepth 20000
set_option maxHeartbeats 2000000
attribute [local irreducible] PreK CondK CallK CallG CallX LoopK

theorem wordErr_zero {w : List Int} (h : wordErr w = 0) : w.length ≤ 8 ∧ w.all isSound = true := by
  unfold wordErr at h
  by_cases h1 : 8 < w.length
  · simp [h1] at h
  · rw [if_neg h1] at h
    by_cases h2 : w.any (fun x => !isSound x) = true
    · rw [if_pos h2] at h; cases h
    · refine ⟨by omega, ?_⟩
      rw [List.all_eq_true]
      intro x hx
      simp only [List.any_eq_true, not_exists, not_and] at h2
      simpa using h2 x hx
theorem wordedErr_zero {r : Rule} {w : List Int} (h : wordedErr r w = 0) : ruleErr r = 0 ∧ wordErr w = 0 := by
  unfold wordedErr at h
  by_cases h1 : ruleErr r = 0
  · simp [h1] at h; exact ⟨h1, h⟩
  · simp [h1] at h
def placesM (r : Rule) (w : List Int) : List Int := placesF r w 0 (w.length + 1 - (long r).toNat)
def PlacesM (r : Rule) (w : List Int) : List Int × Int := if wordedErr r w ≠ 0 then ([], wordedErr r w) else (placesM r w, 0)
theorem Places_c (r : Rule) (w : List Int) (h : r.small) (hw : w.length ≤ 1000) : CallP Try.prog 7 [ruleV r, ints w] (.tup [ints (PlacesM r w).1, iv (PlacesM r w).2]) := by
  refine C7 (by simp) ?_
  simp [A7]
  try simp 
  repeat' (first
    | (refine CallX.pure (worded_c r w h hw) (by simp) (by simp) ?_; try simp )
    | (refine CallK.intro (worded_c r w h hw) (by simp) (by simp) ?_; try simp )
    | (refine CallG.intro (fun _ => worded_c r w h hw) (by simp) (by simp) ?_; try simp )
    | ((with_reducible refine PreK.intro ?_ ?_); (next => (first | omega | (intros; first | omega | (refine ⟨by omega, ?_⟩; repeat (first | assumption | constructor)) | assumption))); intro _; try simp )
    | fail)
  refine CondK.intro (fun h1 => ?_) (fun h1 => ?_)
  · simp at h1
    simp [PlacesM, h1]
  · simp at h1
    obtain ⟨h2, h3⟩ := wordedErr_zero h1
    obtain ⟨h4, h5⟩ := wordErr_zero h3
    try simp 
    repeat' (first
      | (refine CallX.pure (places_c r w h hw h5) (by simp) (by simp) ?_; try simp )
      | (refine CallK.intro (places_c r w h hw h5) (by simp) (by simp) ?_; try simp )
      | (refine CallG.intro (fun _ => places_c r w h hw h5) (by simp) (by simp) ?_; try simp )
      | ((with_reducible refine PreK.intro ?_ ?_); (next => (first | omega | (intros; first | omega | (refine ⟨by omega, ?_⟩; repeat (first | assumption | constructor)) | assumption))); intro _; try simp )
      | fail)
    simp [PlacesM, h1, placesM]

theorem placesF_any (r : Rule) (w : List Int) (p : Int) : ∀ (n i : Nat), (placesF r w i n).any (fun x => decide (p = x)) = (decide ((i : Int) ≤ p) && (decide (p < (i : Int) + n) && isAt r w p.toNat))
  | 0, i => by
    simp only [placesF, List.any_nil]
    by_cases h : (i : Int) ≤ p
    · have : ¬ p < (i : Int) + (0 : Nat) := by omega
      simp only [this, decide_false, Bool.false_and, Bool.and_false]
    · simp [h]
  | n + 1, i => by
    have ih := placesF_any r w p n (i + 1)
    unfold placesF
    by_cases hp : p = (i : Int)
    · subst hp
      have h1 : ¬ ((i + 1 : Nat) : Int) ≤ (i : Int) := by omega
      by_cases ha : isAt r w i = true
      · rw [if_pos ha]; simp [ha]; omega
      · rw [if_neg ha, ih]; simp [ha]
    · have h2 : decide ((i : Int) ≤ p) = decide (((i + 1 : Nat) : Int) ≤ p) := by
        by_cases h : (i : Int) ≤ p
        · have : ((i + 1 : Nat) : Int) ≤ p := by omega
          simp only [h, this]
        · have : ¬ ((i + 1 : Nat) : Int) ≤ p := by omega
          simp only [h, this]
      have h3 : decide (p < (i : Int) + (n + 1 : Nat)) = decide (p < ((i + 1 : Nat) : Int) + n) := by
        congr 1; simp only [eq_iff_iff]; omega
      rw [h2, h3]
      split
      · rw [List.any_cons, ih]; simp [hp]
      · exact ih
theorem long_cases (r : Rule) : long r = 0 ∨ long r = 1 := by unfold long; split <;> simp
theorem placesM_any (r : Rule) (w : List Int) (p : Int) : (placesM r w).any (fun x => decide (p = x)) = placeB r w p := by
  unfold placesM placeB
  rw [placesF_any]
  have hl := long_cases r
  by_cases h : (0 : Int) ≤ p
  · have e : decide (p < ((0 : Nat) : Int) + (w.length + 1 - (long r).toNat : Nat)) = decide (p + long r ≤ w.length) := by
      congr 1; simp only [eq_iff_iff]; omega
    rw [e]; simp
  · have : ¬ ((0 : Nat) : Int) ≤ p := by omega
    simp [h, this]
theorem placesF_len (r : Rule) (w : List Int) : ∀ (n i : Nat), (placesF r w i n).length ≤ n
  | 0, i => by simp [placesF]
  | n + 1, i => by
    have := placesF_len r w n (i + 1)
    unfold placesF
    split
    · simp; omega
    · omega
theorem placesM_len (r : Rule) (w : List Int) : (placesM r w).length ≤ w.length + 1 := by
  have := placesF_len r w (w.length + 1 - (long r).toNat) 0
  unfold placesM; omega
theorem ruleErr_to {r : Rule} (h : ruleErr r = 0) : r.to.length ≤ 2 := by
  unfold ruleErr at h
  by_cases h0 : (!isNeighbor r.frm) = true
  · rw [if_pos h0] at h; cases h
  · rw [if_neg h0] at h
    by_cases h1 : 2 < r.to.length
    · rw [if_pos h1] at h; cases h
    · omega
theorem Apply_c (r : Rule) (w : List Int) (p : Int) (h : r.small) (hw : w.length ≤ 1000) : CallP Try.prog 72 [ruleV r, ints w, iv p] (.tup [ints (applyM r w p).1, iv (applyM r w p).2]) := by
  refine C72 (by simp) ?_
  have hbig : (placesM r w).length ≤ big := by have := placesM_len r w; simp only [big]; omega
  simp [A72]
  try simp 
  repeat' (first
    | (refine CallX.pure (worded_c r w h hw) (by simp) (by simp) ?_; try simp )
    | (refine CallK.intro (worded_c r w h hw) (by simp) (by simp) ?_; try simp )
    | (refine CallG.intro (fun _ => worded_c r w h hw) (by simp) (by simp) ?_; try simp )
    | ((with_reducible refine PreK.intro ?_ ?_); (next => (first | omega | (intros; first | omega | (refine ⟨by omega, ?_⟩; repeat (first | assumption | constructor)) | assumption))); intro _; try simp )
    | fail)
  refine CondK.intro (fun h1 => ?_) (fun h1 => ?_)
  · simp at h1
    simp [applyM, h1]
  · simp at h1
    obtain ⟨h2, h3⟩ := wordedErr_zero h1
    obtain ⟨h4, h5⟩ := wordErr_zero h3
    try simp 
    repeat' (first
      | (refine CallX.pure (places_c r w h hw h5) (by simp) (by simp) ?_; try simp )
      | (refine CallK.intro (places_c r w h hw h5) (by simp) (by simp) ?_; try simp )
      | (refine CallG.intro (fun _ => places_c r w h hw h5) (by simp) (by simp) ?_; try simp )
      | (refine CallX.pure (contains_c (placesM r w) p hbig) (by simp) (by simp) ?_; try simp )
      | (refine CallK.intro (contains_c (placesM r w) p hbig) (by simp) (by simp) ?_; try simp )
      | (refine CallG.intro (fun _ => contains_c (placesM r w) p hbig) (by simp) (by simp) ?_; try simp )
      | ((with_reducible refine PreK.intro ?_ ?_); (next => (first | omega | (intros; first | omega | (refine ⟨by omega, ?_⟩; repeat (first | assumption | constructor)) | assumption))); intro _; try simp )
      | fail)
    rw [placesM_any]
    refine CondK.intro (fun h6 => ?_) (fun h6 => ?_)
    · simp at h6
      simp [applyM, h1, h6]
    · simp at h6
      have h6' := h6
      simp only [placeB, Bool.and_eq_true, decide_eq_true_eq] at h6'
      have hl := long_cases r
      obtain ⟨n, rfl⟩ := Int.eq_ofNat_of_zero_le h6'.1
      have ht := ruleErr_to h2
      have e1 : n + (long r).toNat ≤ w.length := by omega
      have e2 := put_c r w n e1 (by omega) (by omega)
      try simp 
      repeat' (first
        | (refine CallX.pure (e2) (by simp) (by simp) ?_; try simp )
        | (refine CallK.intro (e2) (by simp) (by simp) ?_; try simp )
        | (refine CallG.intro (fun _ => e2) (by simp) (by simp) ?_; try simp )
        | (refine CallX.pure (short_c (putW r w n)) (by simp) (by simp) ?_; try simp )
        | (refine CallK.intro (short_c (putW r w n)) (by simp) (by simp) ?_; try simp )
        | (refine CallG.intro (fun _ => short_c (putW r w n)) (by simp) (by simp) ?_; try simp )
        | ((with_reducible refine PreK.intro ?_ ?_); (next => (first | omega | (intros; first | omega | (refine ⟨by omega, ?_⟩; repeat (first | assumption | constructor)) | assumption))); intro _; try simp )
        | fail)
      by_cases h7 : 8 < (putW r w n).length
      · simp [applyM, h1, h6, h7, shortErr]
      · simp [applyM, h1, h6, h7, shortErr]
end Go.Proofs.Ytkhddecnllcaiaa
end

section
/- Functions of the cut as the value layer reads them. (written by gen.py) -/
set_option maxRecDepth 20000
namespace Go.Proofs.Ytkhddecnllcaiaa
open Go.Abs Go

end Go.Proofs.Ytkhddecnllcaiaa
end

section
/- Contracts: the reference's rules. -/
namespace Go.Proofs.Ytkhddecnllcaiaa
open Go.Abs Go
set_option maxRecDepth 20000
set_option maxHeartbeats 2000000
attribute [local irreducible] PreK CondK CallK CallG CallX LoopK

end Go.Proofs.Ytkhddecnllcaiaa
end

section
/- Contracts: the reference's checks of rules, and its Apply. -/
namespace Go.Proofs.Ytkhddecnllcaiaa
open Go.Abs Go
set_option maxRecDepth 20000
set_option maxHeartbeats 2000000
attribute [local irreducible] PreK CondK CallK CallG CallX LoopK

theorem ruleErr_frm {r : Rule} (h : ruleErr r = 0) : isNeighbor r.frm = true := by
  unfold ruleErr at h
  by_cases h0 : (!isNeighbor r.frm) = true
  · rw [if_pos h0] at h; cases h
  · simpa using h0
end Go.Proofs.Ytkhddecnllcaiaa
end

section
/- Contracts: systems and their steps. -/
namespace Go.Proofs.Ytkhddecnllcaiaa
open Go.Abs Go
set_option maxRecDepth 20000
set_option maxHeartbeats 2000000
attribute [local irreducible] PreK CondK CallK CallG CallX LoopK

def Sys.small (s : List Rule) : Prop := s.length ≤ 1000 ∧ ∀ r ∈ s, r.small
theorem Sys.small.el {s : List Rule} (h : Sys.small s) {i : Nat} (hi : i < s.length) : (el s i).small := by
  rw [el_eq s i hi]; exact h.2 _ (List.getElem_mem hi)
@[simp] def moveV (x : Move) : AV := .agg [iv x.step.rule, iv x.step.place, ints x.word]
@[simp] def movesV (l : List Move) : AV := .seq 3 (l.map moveV) false
@[simp] theorem nth_move (l : List Move) (k : Nat) (h : k < l.length) : nth (l.map moveV) k = moveV (el l k) := nth_map moveV l k h
theorem Validate_c (s : List Rule) (h : Sys.small s) : CallP Try.prog 64 [rulesV s] (iv (sysErr s)) := by
  refine C64 (by simp) ?_
  generalize hR : sysErr s = R
  unfold sysErr at hR
  have hl := h.1
  simp [A64]
  refine CondK.intro (fun h1 => ?_) (fun h1 => ?_)
  · simp at h1
    rw [if_pos (by omega)] at hR
    simp [hR]
  · simp at h1
    rw [if_neg (by omega)] at hR
    try simp 
    refine LoopK.by (fun i : Nat => ⟨[(11, iv i), (10, iv s.length), (9, rulesV s)], []⟩) (fun i => s.length - i) (fun i => i ≤ s.length ∧ firstErr (s.drop i) = R) 0 (by simpa using hR) (by simp) ?_
    intro i Q' ⟨hi, hc⟩ hq he hr
    try simp 
    refine CondK.intro (fun h2 => ?_) (fun h2 => ?_)
    · simp at h2
      rw [drop_cons s i h2, firstErr] at hc
      simp [h2]
      try simp 
      repeat' (first
        | (refine CallX.pure (validate_s (h.el h2)) (by simp) (by simp) ?_; try simp )
        | (refine CallK.intro (validate_s (h.el h2)) (by simp) (by simp) ?_; try simp )
        | (refine CallG.intro (fun _ => validate_s (h.el h2)) (by simp) (by simp) ?_; try simp )
        | ((with_reducible refine PreK.intro ?_ ?_); (next => (first | omega | (intros; first | omega | (refine ⟨by omega, ?_⟩; repeat (first | assumption | constructor)) | assumption))); intro _; try simp )
        | fail)
      refine CondK.intro (fun h3 => ?_) (fun h3 => ?_)
      · simp at h3
        simp [h3] at hc
        try simp 
        apply hr
        simp [hc]
      · simp at h3
        simp [h3] at hc
        try simp 
        refine PreK.intro (by omega) fun _ => ?_
        try simp 
        exact hq (i + 1) _ ⟨by omega, hc⟩ (by omega) (by simp)
    · simp at h2
      rw [List.drop_eq_nil_of_le (by omega)] at hc
      simp [firstErr] at hc
      try simp 
      apply he
      simp [hc]
def firstW : List (List Int) → Int
  | [] => 0
  | w :: l => if wordErr w ≠ 0 then wordErr w else firstW l
def checkErr (s : List Rule) (ws : List (List Int)) : Int := if sysErr s ≠ 0 then sysErr s else firstW ws
theorem check_c (s : List Rule) (ws : List (List Int)) (h : Sys.small s) (hn : ws.length ≤ 1000) (hw : ∀ w ∈ ws, w.length ≤ 1000) : CallP Try.prog 67 [rulesV s, .seq 1 (ws.map ints) false] (iv (checkErr s ws)) := by
  refine C67 (by simp) ?_
  generalize hR : checkErr s ws = R
  unfold checkErr at hR
  simp [A67]
  try simp 
  repeat' (first
    | (refine CallX.pure (Validate_c s h) (by simp) (by simp) ?_; try simp )
    | (refine CallK.intro (Validate_c s h) (by simp) (by simp) ?_; try simp )
    | (refine CallG.intro (fun _ => Validate_c s h) (by simp) (by simp) ?_; try simp )
    | ((with_reducible refine PreK.intro ?_ ?_); (next => (first | omega | (intros; first | omega | (refine ⟨by omega, ?_⟩; repeat (first | assumption | constructor)) | assumption))); intro _; try simp )
    | fail)
  refine CondK.intro (fun h1 => ?_) (fun h1 => ?_)
  · simp at h1
    simp [h1] at hR
    simp [hR]
  · simp at h1
    simp [h1] at hR
    try simp 
    refine LoopK.by (fun i : Nat => ⟨[(16, iv i), (15, iv ws.length), (14, .seq 1 (ws.map ints) false)], []⟩) (fun i => ws.length - i) (fun i => i ≤ ws.length ∧ firstW (ws.drop i) = R) 0 (by simpa using hR) (by simp) ?_
    intro i Q' ⟨hi, hc⟩ hq he hr
    try simp 
    refine CondK.intro (fun h2 => ?_) (fun h2 => ?_)
    · simp at h2
      rw [drop_cons ws i h2, firstW] at hc
      have hwi : (el ws i).length ≤ big := by
        have := hw (el ws i) (by rw [el_eq ws i h2]; exact List.getElem_mem h2)
        simp only [big]; omega
      simp [h2]
      try simp 
      repeat' (first
        | (refine CallX.pure (validateWord_c (el ws i) hwi) (by simp) (by simp) ?_; try simp )
        | (refine CallK.intro (validateWord_c (el ws i) hwi) (by simp) (by simp) ?_; try simp )
        | (refine CallG.intro (fun _ => validateWord_c (el ws i) hwi) (by simp) (by simp) ?_; try simp )
        | ((with_reducible refine PreK.intro ?_ ?_); (next => (first | omega | (intros; first | omega | (refine ⟨by omega, ?_⟩; repeat (first | assumption | constructor)) | assumption))); intro _; try simp )
        | fail)
      refine CondK.intro (fun h3 => ?_) (fun h3 => ?_)
      · simp at h3
        simp [h3] at hc
        try simp 
        apply hr
        simp [hc]
      · simp at h3
        simp [h3] at hc
        try simp 
        refine PreK.intro (by omega) fun _ => ?_
        try simp 
        exact hq (i + 1) _ ⟨by omega, hc⟩ (by omega) (by simp)
    · simp at h2
      rw [List.drop_eq_nil_of_le (by omega)] at hc
      simp [firstW] at hc
      try simp 
      apply he
      simp [hc]
theorem check_one (s : List Rule) (w : List Int) : checkErr s [w] = swErr s w := by
  unfold checkErr swErr
  by_cases h : sysErr s = 0
  · by_cases h2 : wordErr w = 0 <;> simp [h, h2, firstW]
  · simp [h]
end Go.Proofs.Ytkhddecnllcaiaa
end

section
/- Contracts: the steps of a word. -/
namespace Go.Proofs.Ytkhddecnllcaiaa
open Go.Abs Go
set_option maxRecDepth 20000
set_option maxHeartbeats 2000000
attribute [local irreducible] PreK CondK CallK CallG CallX LoopK

/-- The steps of a rule at given places. -/
def moveI (r : Rule) (w : List Int) (k : Nat) (p : Int) : List Move := if (applyM r w p).2 = 0 then [⟨⟨k, p⟩, (applyM r w p).1⟩] else []
def movesP (r : Rule) (w : List Int) (k : Nat) : List Int → List Move
  | [] => []
  | p :: l => moveI r w k p ++ movesP r w k l
theorem applyM_not {r : Rule} {w : List Int} {p : Int} (h : wordedErr r w = 0) (hp : placeB r w p = false) : (applyM r w p).2 = 6 := by simp [applyM, h, hp]
theorem moveI_not {r : Rule} {w : List Int} {k : Nat} {p : Int} (h : wordedErr r w = 0) (hp : placeB r w p = false) : moveI r w k p = [] := by simp [moveI, applyM_not h hp]
theorem movesP_places {r : Rule} {w : List Int} {k : Nat} (h : wordedErr r w = 0) : ∀ (n i : Nat), i + n ≤ w.length + 1 - (long r).toNat → movesP r w k (placesF r w i n) = movesR r w k i n
  | 0, i, _ => rfl
  | n + 1, i, hn => by
    have ih := movesP_places (k := k) h n (i + 1) (by omega)
    have hl := long_cases r
    unfold placesF movesR
    by_cases ha : isAt r w i = true
    · rw [if_pos ha, movesP, ih]; rfl
    · rw [if_neg ha, ih]
      have : placeB r w i = false := by
        unfold placeB
        have e : isAt r w ((i : Int).toNat) = false := by simpa using ha
        rw [e]; simp
      have e2 : moveAt r w k i = moveI r w k i := rfl
      rw [e2, moveI_not h this, List.nil_append]
theorem movesR_end {r : Rule} {w : List Int} {k : Nat} (h : wordedErr r w = 0) : ∀ (n i : Nat), w.length + 1 - (long r).toNat ≤ i → movesR r w k i n = []
  | 0, i, _ => rfl
  | n + 1, i, hi => by
    rw [movesR, movesR_end (k := k) h n (i + 1) (by omega)]
    have : placeB r w i = false := by
      unfold placeB
      have hl := long_cases r
      have : ¬ ((i : Int) + long r ≤ w.length) := by omega
      simp [this]
    have e2 : moveAt r w k i = moveI r w k i := rfl
    rw [e2, moveI_not h this]
    rfl
theorem movesR_add {r : Rule} {w : List Int} {k : Nat} : ∀ (n m i : Nat), movesR r w k i (n + m) = movesR r w k i n ++ movesR r w k (i + n) m
  | 0, m, i => by simp [movesR]
  | n + 1, m, i => by
    rw [show n + 1 + m = (n + m) + 1 by omega, movesR, movesR, movesR_add n m (i + 1), List.append_assoc, show i + 1 + n = i + (n + 1) by omega]
theorem movesP_all {r : Rule} {w : List Int} {k : Nat} (h : wordedErr r w = 0) : movesP r w k (placesM r w) = movesR r w k 0 (w.length + 1) := by
  have hl := long_cases r
  have e : w.length + 1 = (w.length + 1 - (long r).toNat) + (long r).toNat := by omega
  have e1 := movesR_end (k := k) h (long r).toNat (0 + (w.length + 1 - (long r).toNat)) (by omega)
  rw [e, movesR_add, e1, List.append_nil]
  exact movesP_places h _ 0 (by omega)
theorem moveI_len (r : Rule) (w : List Int) (k : Nat) (p : Int) : (moveI r w k p).length ≤ 1 := by unfold moveI; split <;> simp
theorem firstErr_el {s : List Rule} (h : firstErr s = 0) : ∀ r ∈ s, ruleErr r = 0 := by
  induction s with
  | nil => intro r hr; cases hr
  | cons r0 s ih =>
    unfold firstErr at h
    by_cases h0 : ruleErr r0 = 0
    · simp [h0] at h
      intro r hr
      rcases List.mem_cons.1 hr with rfl | hr
      · exact h0
      · exact ih h r hr
    · simp [h0] at h
theorem sysErr_zero {s : List Rule} (h : sysErr s = 0) : s.length ≤ 6 ∧ ∀ r ∈ s, ruleErr r = 0 := by
  unfold sysErr at h
  by_cases h1 : 6 < s.length
  · simp [h1] at h
  · simp [h1] at h
    exact ⟨by omega, firstErr_el h⟩
theorem wordedErr_of {r : Rule} {w : List Int} (h : ruleErr r = 0) (hw : wordErr w = 0) : wordedErr r w = 0 := by simp [wordedErr, h, hw]

theorem moves_c (s : List Rule) (w : List Int) (h : Sys.small s) (hs : sysErr s = 0) (hw : wordErr w = 0) : CallP Try.prog 68 [rulesV s, ints w] (movesV (movesM s w)) := by
  refine C68 (by simp) ?_
  generalize hR : movesM s w = R
  unfold movesM at hR
  obtain ⟨hs6, hsr⟩ := sysErr_zero hs
  obtain ⟨hw8, hww⟩ := wordErr_zero hw
  have hw1 : w.length ≤ 1000 := by omega
  simp [A68]
  refine LoopK.by (ι := Nat × Nat × List Move) (fun i => ⟨[(16, iv i.1), (15, iv s.length), (14, rulesV s), (1, ints w), (5, .sl 5 i.2.1 0 i.2.2.length)], [(5, some ⟨3, i.2.2.map moveV, i.2.1, false⟩)]⟩) (fun i => s.length - i.1)
    (fun i => i.1 ≤ s.length ∧ i.2.2.length ≤ 10 * i.1 ∧ i.2.2 ++ movesF w i.1 (s.drop i.1) = R) (0, 1, []) (by simpa using hR) (by simp) ?_
  intro ⟨i, ver, acc⟩ Q' ⟨hi, ha, hc⟩ hq he hr
  dsimp only at hi ha hc
  try simp 
  refine CondK.intro (fun h1 => ?_) (fun h1 => ?_)
  · simp at h1
    have hri : ruleErr (el s i) = 0 := hsr _ (by rw [el_eq s i h1]; exact List.getElem_mem h1)
    have hwi := wordedErr_of hri hw
    have hsm := h.el h1
    rw [drop_cons s i h1, movesF, ← movesP_all hwi] at hc
    have hpl := placesM_len (el s i) w
    have hP : PlacesM (el s i) w = (placesM (el s i) w, 0) := by simp [PlacesM, hwi]
    have hPc : CallP Try.prog 7 [ruleV (el s i), ints w] (.tup [ints (placesM (el s i) w), iv 0]) := by
      have := Places_c (el s i) w hsm hw1
      rwa [hP] at this
    generalize placesM (el s i) w = ps at hc hpl hPc
    simp [h1]
    try simp 
    repeat' (first
      | (refine CallX.pure (hPc) (by simp) (by simp) ?_; try simp )
      | (refine CallK.intro (hPc) (by simp) (by simp) ?_; try simp )
      | (refine CallG.intro (fun _ => hPc) (by simp) (by simp) ?_; try simp )
      | ((with_reducible refine PreK.intro ?_ ?_); (next => (first | omega | (intros; first | omega | (refine ⟨by omega, ?_⟩; repeat (first | assumption | constructor)) | assumption))); intro _; try simp )
      | fail)
    refine LoopK.by (ι := Nat × Nat × List Move) (fun j => ⟨[(29, iv j.1), (28, iv ps.length), (27, ints ps), (6, iv i), (7, .pt 7 1 0 0), (16, iv i), (15, iv s.length), (14, rulesV s), (1, ints w), (5, .sl 5 j.2.1 0 j.2.2.length)],
      [(5, some ⟨3, j.2.2.map moveV, j.2.1, false⟩), (7, some ⟨4, [ruleV (el s i)], 1, true⟩)]⟩) (fun j => ps.length - j.1)
      (fun j => j.1 ≤ ps.length ∧ j.2.2.length ≤ 10 * i + j.1 ∧ j.2.2 ++ (movesP (el s i) w i (ps.drop j.1) ++ movesF w (i + 1) (s.drop (i + 1))) = R) (0, ver, acc) (by simp; exact ⟨ha, hc⟩) (by simp) ?_
    intro ⟨j, ver', acc'⟩ Q'' ⟨hj, ha', hc'⟩ hq' he' hr'
    dsimp only at hj ha' hc'
    try simp 
    refine CondK.intro (fun h2 => ?_) (fun h2 => ?_)
    · simp at h2
      rw [drop_cons ps j h2, movesP] at hc'
      simp [h2]
      try simp 
      repeat' (first
        | (refine CallX.pure (Apply_c (el s i) w (el ps j) hsm hw1) (by simp) (by simp) ?_; try simp )
        | (refine CallK.intro (Apply_c (el s i) w (el ps j) hsm hw1) (by simp) (by simp) ?_; try simp )
        | (refine CallG.intro (fun _ => Apply_c (el s i) w (el ps j) hsm hw1) (by simp) (by simp) ?_; try simp )
        | ((with_reducible refine PreK.intro ?_ ?_); (next => (first | omega | (intros; first | omega | (refine ⟨by omega, ?_⟩; repeat (first | assumption | constructor)) | assumption))); intro _; try simp )
        | fail)
      refine CondK.intro (fun h3 => ?_) (fun h3 => ?_)
      · simp at h3
        have e : moveI (el s i) w i (el ps j) = [⟨⟨i, el ps j⟩, (applyM (el s i) w (el ps j)).1⟩] := by simp [moveI, h3]
        rw [e] at hc'
        try simp 
        repeat' (first
          | ((with_reducible refine PreK.intro ?_ ?_); (next => (first | omega | (intros; first | omega | (refine ⟨by omega, ?_⟩; repeat (first | assumption | constructor)) | assumption))); intro _; try simp )
          | fail)
        exact hq' (j + 1, ver' + 1, acc' ++ [⟨⟨i, el ps j⟩, (applyM (el s i) w (el ps j)).1⟩]) _ ⟨by dsimp only; omega, by simp; omega, by simpa using hc'⟩ (by dsimp only; omega) (by simp)
      · simp at h3
        have e : moveI (el s i) w i (el ps j) = [] := by simp [moveI, h3]
        rw [e] at hc'
        try simp 
        repeat' (first
          | ((with_reducible refine PreK.intro ?_ ?_); (next => (first | omega | (intros; first | omega | (refine ⟨by omega, ?_⟩; repeat (first | assumption | constructor)) | assumption))); intro _; try simp )
          | fail)
        exact hq' (j + 1, ver', acc') _ ⟨by dsimp only; omega, by dsimp only; omega, by simpa using hc'⟩ (by dsimp only; omega) (by simp)
    · simp at h2
      rw [List.drop_eq_nil_of_le (by omega), movesP] at hc'
      try simp 
      apply he'
      try simp 
      repeat' (first
        | ((with_reducible refine PreK.intro ?_ ?_); (next => (first | omega | (intros; first | omega | (refine ⟨by omega, ?_⟩; repeat (first | assumption | constructor)) | assumption))); intro _; try simp )
        | fail)
      exact hq (i + 1, ver', acc') _ ⟨by dsimp only; omega, by dsimp only; omega, by simpa using hc'⟩ (by dsimp only; omega) (by simp)
  · simp at h1
    rw [List.drop_eq_nil_of_le (by omega)] at hc
    simp [movesF] at hc
    try simp 
    apply he
    simp [hc]
@[simp] def wordsV (l : List (List Int)) : AV := .seq 1 (l.map ints) false
end Go.Proofs.Ytkhddecnllcaiaa
end

section
/- Contracts: Steps, and which rule is special. -/
namespace Go.Proofs.Ytkhddecnllcaiaa
open Go.Abs Go
set_option maxRecDepth 20000
set_option maxHeartbeats 2000000
attribute [local irreducible] PreK CondK CallK CallG CallX LoopK
attribute [local simp] avsEq avEq akind teq vkind vEq

theorem swErr_zero {s : List Rule} {w : List Int} (h : swErr s w = 0) : sysErr s = 0 ∧ wordErr w = 0 := by
  unfold swErr at h
  by_cases h1 : sysErr s = 0
  · simp [h1] at h; exact ⟨h1, h⟩
  · simp [h1] at h
theorem movesR_len (r : Rule) (w : List Int) (k : Nat) : ∀ (n i : Nat), (movesR r w k i n).length ≤ n
  | 0, i => by simp [movesR]
  | n + 1, i => by
    have h1 := movesR_len r w k n (i + 1)
    have h2 := moveI_len r w k i
    have e : moveAt r w k i = moveI r w k i := rfl
    rw [movesR, e]
    simp; omega
theorem movesF_len (w : List Int) : ∀ (s : List Rule) (k : Nat), (movesF w k s).length ≤ s.length * (w.length + 1)
  | [], k => by simp [movesF]
  | r :: s, k => by
    have h1 := movesF_len w s (k + 1)
    have h2 := movesR_len r w k (w.length + 1) 0
    rw [movesF]
    simp only [List.length_append, List.length_cons, Nat.add_mul, Nat.one_mul]
    omega
theorem movesM_len {s : List Rule} {w : List Int} (hs : sysErr s = 0) (hw : wordErr w = 0) : (movesM s w).length ≤ 54 := by
  have h1 := (sysErr_zero hs).1
  have h2 := (wordErr_zero hw).1
  have h3 := movesF_len w s 0
  have h4 : s.length * (w.length + 1) ≤ 6 * 9 := Nat.mul_le_mul h1 (by omega)
  unfold movesM; omega
def andL (a b : List Int) : List Bool := [mayS a (-1) && mayS b (-1), mayS a 0 && mayS b 0, mayS a 1 && mayS b 1, mayS a 2 && mayS b 2, mayS a 3 && mayS b 3, mayS a 4 && mayS b 4, mayS a 5 && mayS b 5]
@[simp] theorem andL_length (a b : List Int) : (andL a b).length = 7 := rfl
@[simp] theorem sideL_length (a : List Int) : (sideL a).length = 7 := rfl
theorem big_of {n : Nat} (h : n ≤ 1000) : n ≤ big := by simp only [big]; omega
end Go.Proofs.Ytkhddecnllcaiaa
end

section
/- Contracts: candidates and grounds. -/
namespace Go.Proofs.Ytkhddecnllcaiaa
open Go.Abs Go
attribute [local simp] avsEq avEq akind teq vkind vEq

/-- A step with its rule. -/
structure Cand where
  step : Step
  rule : Rule
@[simp] def candV (c : Cand) : AV := .agg [iv c.step.rule, iv c.step.place, iv c.rule.frm, ints c.rule.to, ints c.rule.left, ints c.rule.right]
def Cand.small (c : Cand) : Prop := c.rule.small ∧ 0 ≤ c.step.place ∧ c.step.place ≤ 1000
theorem applyM_len (r : Rule) (w : List Int) (p : Int) : (applyM r w p).1.length ≤ 8 := by
  unfold applyM
  split
  · simp
  · split
    · simp
    · split
      · simp
      · rename_i h; simpa using h
end Go.Proofs.Ytkhddecnllcaiaa
end

section
/- Contracts: grounds, part 2. -/
namespace Go.Proofs.Ytkhddecnllcaiaa
open Go.Abs Go
attribute [local simp] avsEq avEq akind teq vkind vEq

end Go.Proofs.Ytkhddecnllcaiaa
end

section
/- Contracts: who wins. -/
namespace Go.Proofs.Ytkhddecnllcaiaa
open Go.Abs Go
attribute [local simp] avsEq avEq akind teq vkind vEq

/-- A step with its rule in a system, as the program holds it. -/
def candS (s : List Rule) (x : Step) : AV := candV ⟨x, el s x.rule.toNat⟩
theorem candS_eq (s : List Rule) (x : Step) : candS s x = .agg [iv x.rule, iv x.place, iv (el s x.rule.toNat).frm, ints (el s x.rule.toNat).to, ints (el s x.rule.toNat).left, ints (el s x.rule.toNat).right] := rfl
@[simp] theorem nth_cand (s : List Rule) (l : List Step) (k : Nat) (h : k < l.length) : nth (l.map (candS s)) k = candV ⟨el l k, el s (el l k).rule.toNat⟩ := nth_map (candS s) l k h
@[simp] def candsV (s : List Rule) (l : List Step) : AV := .seq 6 (l.map (candS s)) false
def stepOK (s : List Rule) (x : Step) : Prop := 0 ≤ x.rule ∧ x.rule < s.length ∧ 0 ≤ x.place ∧ x.place ≤ 8
theorem stepOK.small {s : List Rule} {x : Step} (h : stepOK s x) (hs : Sys.small s) : Cand.small ⟨x, el s x.rule.toNat⟩ := ⟨hs.el (by have := h.1; have := h.2.1; omega), h.2.2.1, by have := h.2.2.2; simp only; omega⟩
end Go.Proofs.Ytkhddecnllcaiaa
end

section
/- Contracts: the champion and the choice. -/
namespace Go.Proofs.Ytkhddecnllcaiaa
open Go.Abs Go
attribute [local simp] avsEq avEq akind teq vkind vEq

/-- The first place at which p holds, or -1. -/
def idxG {α : Type} (p : α → Bool) : Nat → List α → Int
  | _, [] => -1
  | k, x :: r => if p x then k else idxG p (k + 1) r
theorem idxG_any {α : Type} (p : α → Bool) : ∀ (l : List α) (k : Nat), decide (0 ≤ idxG p k l) = l.any p
  | [], k => by simp [idxG]
  | x :: r, k => by
    by_cases h : p x = true
    · simp [idxG, h]
    · simp [idxG, h, idxG_any p r (k + 1)]
end Go.Proofs.Ytkhddecnllcaiaa
end

section
/- Contracts: the champion, the choice, the derivation. -/
namespace Go.Proofs.Ytkhddecnllcaiaa
open Go.Abs Go
attribute [local simp] avsEq avEq akind teq vkind vEq candS_eq

@[simp] def candZ : AV := .agg [iv 0, iv 0, iv 0, .seq 1 [] false, .seq 1 [] false, .seq 1 [] false]
@[simp] def candZ0 : AV := .agg [iv 0, iv 0, iv 0, .seq 1 [] true, .seq 1 [] true, .seq 1 [] true]
end Go.Proofs.Ytkhddecnllcaiaa
end

section
/- Contracts: the choice and the derivation. -/
namespace Go.Proofs.Ytkhddecnllcaiaa
open Go.Abs Go
attribute [local simp] avsEq avEq akind teq vkind vEq candS_eq

end Go.Proofs.Ytkhddecnllcaiaa
end

section
/- Contracts: the derivation of the program. -/
namespace Go.Proofs.Ytkhddecnllcaiaa
open Go.Abs Go
attribute [local simp] avsEq avEq akind teq vkind vEq

end Go.Proofs.Ytkhddecnllcaiaa
end

section
/- Functions of the cut as the value layer reads them. (written by gen.py) -/
set_option maxRecDepth 20000
namespace Go.Proofs.Ytkhddecnllcaiaa
open Go.Abs Go

def A28 : ACode :=
  (.seq (.reg [] [⟨some 4, (.assign (.const (.bool false))), 4, none⟩,
      ⟨some 5, (.assign (.const (.int .i64 0))), 27, none⟩])
    (.seq (.seq (.reg [] [⟨some 7, (.move (.tmp 0)), 41, none⟩,
      ⟨some 8, (.move (.tmp 1)), 22, none⟩,
      ⟨some 9, (.buildSlice 45 1 #[(0, (.tmp 8))]), 45, none⟩,
      ⟨some 10, (.call ⟨(.value (.func 67)), #[(.tmp 7), (.tmp 9)], #[41, 45]⟩), 27, none⟩,
      ⟨some 6, (.assign (.tmp 10)), 27, none⟩])
    (.seq (.reg [] [⟨some 11, (.move (.tmp 6)), 27, none⟩,
      ⟨some 12, (.binOp .neq 27 (.tmp 11) (.const (.int .i64 0)) 27), 4, none⟩])
    (.cond (.tmp 12)
    (.seq (.reg [] [⟨some 13, (.move (.tmp 6)), 27, none⟩,
      ⟨some 4, (.assign (.const (.bool false))), 4, none⟩,
      ⟨some 5, (.assign (.tmp 13)), 27, none⟩])
    .ret)
    .skip)))
    (.seq (.reg [] [⟨some 14, (.move (.tmp 0)), 41, none⟩,
      ⟨some 15, (.move (.tmp 1)), 22, none⟩,
      ⟨some 16, (.call ⟨(.value (.func 68)), #[(.tmp 14), (.tmp 15)], #[41, 22]⟩), 105, none⟩,
      ⟨some 17, (.call ⟨(.builtin .len), #[(.tmp 16)], #[105]⟩), 3, none⟩,
      ⟨some 18, (.binOp .eql 3 (.tmp 17) (.const (.int .i64 0)) 3), 4, none⟩,
      ⟨some 4, (.assign (.tmp 18)), 4, none⟩,
      ⟨some 5, (.assign (.const (.int .i64 0))), 27, none⟩])
    .ret)))
theorem C28 {args : List AV} {r : AV} (hn : args.length ≤ 19) (h : vc Try.prog T [] A28 (Fin T [(.tmp 4), (.tmp 5)] r) ⟨envOf 0 args, []⟩) : CallP Try.prog 28 args r :=
  callP_of tok mixed Try.func28 (by kernel_rfl) (by kernel_rfl) (by kernel_rfl : Try.f28.ntmps = 19) (by kernel_rfl : Try.f28.body.bind (strip 19 (fun _ => [])) = some A28) hn h
def A24 : ACode :=
  (.seq (.reg [] [⟨some 2, (.assign (.const (.slice none 0 0))), 22, none⟩,
      ⟨some 3, (.assign (.const (.bool false))), 4, none⟩,
      ⟨some 4, (.assign (.const (.int .i64 0))), 27, none⟩])
    (.seq (.seq (.reg [] [⟨some 12, (.move (.tmp 0)), 41, none⟩,
      ⟨some 13, (.call ⟨(.value (.func 64)), #[(.tmp 12)], #[41]⟩), 27, none⟩,
      ⟨some 5, (.assign (.tmp 13)), 27, none⟩])
    (.seq (.reg [] [⟨some 14, (.move (.tmp 5)), 27, none⟩,
      ⟨some 15, (.binOp .neq 27 (.tmp 14) (.const (.int .i64 0)) 27), 4, none⟩])
    (.cond (.tmp 15)
    (.seq (.reg [] [⟨some 16, (.move (.tmp 5)), 27, none⟩,
      ⟨some 2, (.assign (.const (.slice none 0 0))), 22, none⟩,
      ⟨some 3, (.assign (.const (.bool false))), 4, none⟩,
      ⟨some 4, (.assign (.tmp 16)), 27, none⟩])
    .ret)
    .skip)))
    (.seq (.reg [] [⟨some 17, (.makeSlice 22 (.const (.int .i64 6)) (.const (.int .i64 6))), 22, none⟩,
      ⟨some 6, (.assign (.tmp 17)), 22, none⟩])
    (.seq (.seq (.reg [] [⟨some 18, (.move (.const (.int .i64 0))), 3, none⟩])
    (.block 0 (.loop (.seq (.reg [] [⟨some 19, (.binOp .lss 3 (.tmp 18) (.const (.int .i64 7)) 3), 4, none⟩])
    (.seq (.cond (.tmp 19)
    .skip
    (.exit 0))
    (.seq (.block 1 (.seq (.reg [] [⟨some 20, (.move (.tmp 18)), 3, none⟩,
      ⟨some 7, (.assign (.tmp 20)), 3, none⟩])
    (.seq (.reg [] [⟨some 8, (.assign (.const (.bool false))), 4, none⟩])
    (.seq (.seq (.reg [] [⟨some 21, (.move (.tmp 0)), 41, none⟩,
      ⟨some 22, (.call ⟨(.builtin .len), #[(.tmp 21)], #[41]⟩), 3, none⟩,
      ⟨some 23, (.move (.const (.int .i64 0))), 3, none⟩])
    (.block 2 (.loop (.seq (.reg [] [⟨some 24, (.binOp .lss 3 (.tmp 23) (.tmp 22) 3), 0, none⟩])
    (.seq (.cond (.tmp 24)
    .skip
    (.exit 2))
    (.seq (.block 3 (.seq (.reg [] [⟨some 25, (.indexAddr 41 (.tmp 21) (.tmp 23)), 0, none⟩,
      ⟨some 26, (.load 24 (.tmp 25)), 24, none⟩,
      ⟨some 10, (.alloc 24), 0, none⟩,
      ⟨none, (.store 24 (.tmp 10) (.tmp 26)), 0, none⟩])
    (.seq (.seq (.reg [] [⟨some 27, (.fieldAddr 24 (.tmp 10) 0), 0, none⟩,
      ⟨some 28, (.load 3 (.tmp 27)), 3, none⟩,
      ⟨some 29, (.binOp .lss 3 (.tmp 28) (.const (.int .i64 0)) 3), 4, none⟩])
    (.cond (.tmp 29)
    (.seq (.reg [] [⟨some 2, (.assign (.const (.slice none 0 0))), 22, none⟩,
      ⟨some 3, (.assign (.const (.bool false))), 4, none⟩,
      ⟨some 4, (.assign (.const (.int .i64 0))), 27, none⟩])
    .ret)
    .skip))
    (.seq (.reg [] [⟨some 30, (.move (.tmp 6)), 22, none⟩,
      ⟨some 31, (.fieldAddr 24 (.tmp 10) 1), 0, none⟩,
      ⟨some 32, (.load 22 (.tmp 31)), 22, none⟩,
      ⟨some 33, (.call ⟨(.value (.func 65)), #[(.tmp 30), (.tmp 32)], #[22, 22]⟩), 3, none⟩,
      ⟨some 34, (.binOp .add 3 (.tmp 33) (.const (.int .i64 1)) 3), 3, none⟩,
      ⟨some 11, (.assign (.tmp 34)), 3, none⟩])
    (.seq (.reg [] [⟨some 35, (.move (.tmp 6)), 22, none⟩,
      ⟨some 36, (.fieldAddr 24 (.tmp 10) 0), 0, none⟩,
      ⟨some 37, (.load 3 (.tmp 36)), 3, none⟩,
      ⟨some 38, (.indexAddr 22 (.tmp 35) (.tmp 37)), 0, none⟩,
      ⟨some 39, (.load 3 (.tmp 38)), 3, none⟩,
      ⟨some 40, (.move (.tmp 11)), 3, none⟩,
      ⟨some 41, (.binOp .lss 3 (.tmp 39) (.tmp 40) 3), 4, none⟩])
    (.cond (.tmp 41)
    (.reg [] [⟨some 42, (.move (.tmp 6)), 22, none⟩,
      ⟨some 43, (.fieldAddr 24 (.tmp 10) 0), 0, none⟩,
      ⟨some 44, (.load 3 (.tmp 43)), 3, none⟩,
      ⟨some 45, (.move (.tmp 11)), 3, none⟩,
      ⟨some 46, (.indexAddr 22 (.tmp 42) (.tmp 44)), 0, none⟩,
      ⟨none, (.store 3 (.tmp 46) (.tmp 45)), 0, none⟩,
      ⟨some 8, (.assign (.const (.bool true))), 4, none⟩])
    .skip))))))
    (.reg [] [⟨some 47, (.binOp .add 3 (.tmp 23) (.const (.int .i64 1)) 3), 3, none⟩,
      ⟨some 23, (.move (.tmp 47)), 3, none⟩])))))))
    (.seq (.seq (.reg [] [⟨some 48, (.move (.tmp 8)), 4, none⟩,
      ⟨some 49, (.unOp .not 4 (.tmp 48)), 4, none⟩])
    (.cond (.tmp 49)
    (.exit 0)
    .skip))
    (.seq (.reg [] [⟨some 50, (.move (.tmp 7)), 3, none⟩,
      ⟨some 51, (.binOp .eql 3 (.tmp 50) (.const (.int .i64 6)) 3), 4, none⟩])
    (.cond (.tmp 51)
    (.seq (.reg [] [⟨some 2, (.assign (.const (.slice none 0 0))), 22, none⟩,
      ⟨some 3, (.assign (.const (.bool false))), 4, none⟩,
      ⟨some 4, (.assign (.const (.int .i64 0))), 27, none⟩])
    .ret)
    .skip)))))))
    (.reg [] [⟨some 52, (.binOp .add 3 (.tmp 18) (.const (.int .i64 1)) 3), 3, none⟩,
      ⟨some 18, (.move (.tmp 52)), 3, none⟩])))))))
    (.seq (.reg [] [⟨some 53, (.move (.tmp 6)), 22, none⟩,
      ⟨some 2, (.assign (.tmp 53)), 22, none⟩,
      ⟨some 3, (.assign (.const (.bool true))), 4, none⟩,
      ⟨some 4, (.assign (.const (.int .i64 0))), 27, none⟩])
    .ret)))))
theorem C24 {args : List AV} {r : AV} (hn : args.length ≤ 54) (h : vc Try.prog T [] A24 (Fin T [(.tmp 2), (.tmp 3), (.tmp 4)] r) ⟨envOf 0 args, []⟩) : CallP Try.prog 24 args r :=
  callP_of tok mixed Try.func24 (by kernel_rfl) (by kernel_rfl) (by kernel_rfl : Try.f24.ntmps = 54) (by kernel_rfl : Try.f24.body.bind (strip 54 (fun _ => [])) = some A24) hn h
def A25 : ACode :=
  (.seq (.reg [] [⟨some 4, (.assign (.const (.int .i64 0))), 3, none⟩,
      ⟨some 5, (.assign (.const (.int .i64 0))), 27, none⟩])
    (.seq (.seq (.reg [] [⟨some 7, (.move (.tmp 0)), 22, none⟩,
      ⟨some 8, (.call ⟨(.value (.func 66)), #[(.tmp 7)], #[22]⟩), 4, none⟩,
      ⟨some 9, (.unOp .not 4 (.tmp 8)), 4, none⟩])
    (.cond (.tmp 9)
    (.seq (.reg [] [⟨some 4, (.assign (.const (.int .i64 0))), 3, none⟩,
      ⟨some 5, (.assign (.const (.int .i64 1))), 27, none⟩])
    .ret)
    .skip))
    (.seq (.seq (.reg [] [⟨some 10, (.move (.tmp 1)), 22, none⟩,
      ⟨some 11, (.call ⟨(.value (.func 52)), #[(.tmp 10)], #[22]⟩), 27, none⟩,
      ⟨some 6, (.assign (.tmp 11)), 27, none⟩])
    (.seq (.reg [] [⟨some 12, (.move (.tmp 6)), 27, none⟩,
      ⟨some 13, (.binOp .neq 27 (.tmp 12) (.const (.int .i64 0)) 27), 4, none⟩])
    (.cond (.tmp 13)
    (.seq (.reg [] [⟨some 14, (.move (.tmp 6)), 27, none⟩,
      ⟨some 4, (.assign (.const (.int .i64 0))), 3, none⟩,
      ⟨some 5, (.assign (.tmp 14)), 27, none⟩])
    .ret)
    .skip)))
    (.seq (.reg [] [⟨some 15, (.move (.tmp 0)), 22, none⟩,
      ⟨some 16, (.move (.tmp 1)), 22, none⟩,
      ⟨some 17, (.call ⟨(.value (.func 65)), #[(.tmp 15), (.tmp 16)], #[22, 22]⟩), 3, none⟩,
      ⟨some 4, (.assign (.tmp 17)), 3, none⟩,
      ⟨some 5, (.assign (.const (.int .i64 0))), 27, none⟩])
    .ret))))
theorem C25 {args : List AV} {r : AV} (hn : args.length ≤ 18) (h : vc Try.prog T [] A25 (Fin T [(.tmp 4), (.tmp 5)] r) ⟨envOf 0 args, []⟩) : CallP Try.prog 25 args r :=
  callP_of tok mixed Try.func25 (by kernel_rfl) (by kernel_rfl) (by kernel_rfl : Try.f25.ntmps = 18) (by kernel_rfl : Try.f25.body.bind (strip 18 (fun _ => [])) = some A25) hn h
def A65 : ACode :=
  (.seq (.reg [] [⟨some 4, (.assign (.const (.int .i64 0))), 3, none⟩])
    (.seq (.reg [] [⟨some 5, (.assign (.const (.int .i64 0))), 3, none⟩])
    (.seq (.seq (.reg [] [⟨some 8, (.move (.tmp 1)), 22, none⟩,
      ⟨some 9, (.call ⟨(.builtin .len), #[(.tmp 8)], #[22]⟩), 3, none⟩,
      ⟨some 10, (.move (.const (.int .i64 0))), 3, none⟩])
    (.block 0 (.loop (.seq (.reg [] [⟨some 11, (.binOp .lss 3 (.tmp 10) (.tmp 9) 3), 0, none⟩])
    (.seq (.cond (.tmp 11)
    .skip
    (.exit 0))
    (.seq (.block 1 (.seq (.reg [] [⟨some 12, (.indexAddr 22 (.tmp 8) (.tmp 10)), 0, none⟩,
      ⟨some 13, (.load 3 (.tmp 12)), 3, none⟩,
      ⟨some 7, (.assign (.tmp 13)), 3, none⟩])
    (.reg [] [⟨some 14, (.move (.tmp 5)), 3, none⟩,
      ⟨some 15, (.move (.tmp 0)), 22, none⟩,
      ⟨some 16, (.move (.tmp 7)), 3, none⟩,
      ⟨some 17, (.indexAddr 22 (.tmp 15) (.tmp 16)), 0, none⟩,
      ⟨some 18, (.load 3 (.tmp 17)), 3, none⟩,
      ⟨some 19, (.binOp .add 3 (.tmp 14) (.tmp 18) 3), 3, none⟩,
      ⟨some 5, (.assign (.tmp 19)), 3, none⟩])))
    (.reg [] [⟨some 20, (.binOp .add 3 (.tmp 10) (.const (.int .i64 1)) 3), 3, none⟩,
      ⟨some 10, (.move (.tmp 20)), 3, none⟩])))))))
    (.seq (.reg [] [⟨some 21, (.move (.tmp 5)), 3, none⟩,
      ⟨some 4, (.assign (.tmp 21)), 3, none⟩])
    .ret))))
theorem C65 {args : List AV} {r : AV} (hn : args.length ≤ 22) (h : vc Try.prog T [] A65 (Fin T [(.tmp 4)] r) ⟨envOf 0 args, []⟩) : CallP Try.prog 65 args r :=
  callP_of tok mixed Try.func65 (by kernel_rfl) (by kernel_rfl) (by kernel_rfl : Try.f65.ntmps = 22) (by kernel_rfl : Try.f65.body.bind (strip 22 (fun _ => [])) = some A65) hn h
def A66 : ACode :=
  (.seq (.reg [] [⟨some 2, (.assign (.const (.bool false))), 4, none⟩])
    (.seq (.reg [] [⟨some 3, (.move (.tmp 0)), 22, none⟩,
      ⟨some 4, (.call ⟨(.builtin .len), #[(.tmp 3)], #[22]⟩), 3, none⟩,
      ⟨some 5, (.binOp .eql 3 (.tmp 4) (.const (.int .i64 6)) 3), 4, none⟩,
      ⟨some 6, (.move (.tmp 5)), 4, none⟩,
      ⟨some 7, (.move (.tmp 0)), 22, some (6, true)⟩,
      ⟨some 8, (.call ⟨(.value (.func 99)), #[(.tmp 7), (.func 100)], #[22, 122]⟩), 4, some (6, true)⟩,
      ⟨some 9, (.unOp .not 4 (.tmp 8)), 4, some (6, true)⟩,
      ⟨some 10, (.pick (.tmp 6) (.tmp 9) (.const (.bool false))), 4, none⟩,
      ⟨some 2, (.assign (.tmp 10)), 4, none⟩])
    .ret))
theorem C66 {args : List AV} {r : AV} (hn : args.length ≤ 11) (h : vc Try.prog T [] A66 (Fin T [(.tmp 2)] r) ⟨envOf 0 args, []⟩) : CallP Try.prog 66 args r :=
  callP_of tok mixed Try.func66 (by kernel_rfl) (by kernel_rfl) (by kernel_rfl : Try.f66.ntmps = 11) (by kernel_rfl : Try.f66.body.bind (strip 11 (fun _ => [])) = some A66) hn h
def A26 : ACode :=
  (.seq (.reg [] [⟨some 4, (.assign (.const (.int .i64 0))), 27, none⟩])
    (.seq (.seq (.reg [] [⟨some 8, (.move (.tmp 0)), 41, none⟩,
      ⟨some 9, (.call ⟨(.value (.func 64)), #[(.tmp 8)], #[41]⟩), 27, none⟩,
      ⟨some 5, (.assign (.tmp 9)), 27, none⟩])
    (.seq (.reg [] [⟨some 10, (.move (.tmp 5)), 27, none⟩,
      ⟨some 11, (.binOp .neq 27 (.tmp 10) (.const (.int .i64 0)) 27), 4, none⟩])
    (.cond (.tmp 11)
    (.seq (.reg [] [⟨some 12, (.move (.tmp 5)), 27, none⟩,
      ⟨some 4, (.assign (.tmp 12)), 27, none⟩])
    .ret)
    .skip)))
    (.seq (.seq (.reg [] [⟨some 13, (.move (.tmp 1)), 22, none⟩,
      ⟨some 14, (.call ⟨(.value (.func 66)), #[(.tmp 13)], #[22]⟩), 4, none⟩,
      ⟨some 15, (.unOp .not 4 (.tmp 14)), 4, none⟩])
    (.cond (.tmp 15)
    (.seq (.reg [] [⟨some 4, (.assign (.const (.int .i64 1))), 27, none⟩])
    .ret)
    .skip))
    (.seq (.seq (.reg [] [⟨some 16, (.move (.tmp 0)), 41, none⟩,
      ⟨some 17, (.call ⟨(.builtin .len), #[(.tmp 16)], #[41]⟩), 3, none⟩,
      ⟨some 18, (.move (.const (.int .i64 0))), 3, none⟩])
    (.block 0 (.loop (.seq (.reg [] [⟨some 19, (.binOp .lss 3 (.tmp 18) (.tmp 17) 3), 0, none⟩])
    (.seq (.cond (.tmp 19)
    .skip
    (.exit 0))
    (.seq (.block 1 (.seq (.reg [] [⟨some 20, (.indexAddr 41 (.tmp 16) (.tmp 18)), 0, none⟩,
      ⟨some 21, (.load 24 (.tmp 20)), 24, none⟩,
      ⟨some 7, (.alloc 24), 0, none⟩,
      ⟨none, (.store 24 (.tmp 7) (.tmp 21)), 0, none⟩])
    (.seq (.draw [] [⟨some 22, (.fieldAddr 24 (.tmp 7) 0), 0, none⟩,
      ⟨some 23, (.load 3 (.tmp 22)), 3, none⟩,
      ⟨some 24, (.binOp .lss 3 (.tmp 23) (.const (.int .i64 0)) 3), 4, none⟩,
      ⟨some 25, (.move (.tmp 24)), 4, none⟩,
      ⟨some 26, (.move (.tmp 1)), 22, some (25, false)⟩,
      ⟨some 27, (.fieldAddr 24 (.tmp 7) 0), 0, some (25, false)⟩,
      ⟨some 28, (.load 3 (.tmp 27)), 3, some (25, false)⟩,
      ⟨some 29, (.indexAddr 22 (.tmp 26) (.tmp 28)), 0, some (25, false)⟩,
      ⟨some 30, (.load 3 (.tmp 29)), 3, some (25, false)⟩,
      ⟨some 31, (.move (.tmp 1)), 22, some (25, false)⟩,
      ⟨some 32, (.fieldAddr 24 (.tmp 7) 1), 0, some (25, false)⟩,
      ⟨some 33, (.load 22 (.tmp 32)), 22, some (25, false)⟩,
      ⟨some 34, (.call ⟨(.value (.func 65)), #[(.tmp 31), (.tmp 33)], #[22, 22]⟩), 3, some (25, false)⟩,
      ⟨some 35, (.binOp .leq 3 (.tmp 30) (.tmp 34) 3), 4, some (25, false)⟩,
      ⟨some 36, (.pick (.tmp 25) (.const (.bool true)) (.tmp 35)), 4, none⟩] [(4, 5), (4, 6), (4, 9), (5, 9), (6, 9), (7, 9), (8, 9), (4, 10), (5, 10), (6, 10), (7, 10), (8, 10), (9, 10), (4, 11), (5, 11), (6, 11), (7, 11), (8, 11), (9, 11), (4, 12), (5, 12), (6, 12), (7, 12), (8, 12)])
    (.cond (.tmp 36)
    (.seq (.reg [] [⟨some 4, (.assign (.const (.int .i64 7))), 27, none⟩])
    .ret)
    .skip))))
    (.reg [] [⟨some 37, (.binOp .add 3 (.tmp 18) (.const (.int .i64 1)) 3), 3, none⟩,
      ⟨some 18, (.move (.tmp 37)), 3, none⟩])))))))
    (.seq (.reg [] [⟨some 4, (.assign (.const (.int .i64 0))), 27, none⟩])
    .ret)))))
theorem C26 {args : List AV} {r : AV} (hn : args.length ≤ 38) (h : vc Try.prog T [] A26 (Fin T [(.tmp 4)] r) ⟨envOf 0 args, []⟩) : CallP Try.prog 26 args r :=
  callP_of tok mixed Try.func26 (by kernel_rfl) (by kernel_rfl) (by kernel_rfl : Try.f26.ntmps = 38) (by kernel_rfl : Try.f26.body.bind (strip 38 (fun _ => [])) = some A26) hn h

end Go.Proofs.Ytkhddecnllcaiaa
end

section
/- Contracts: order.Derive and what it checks. -/
namespace Go.Proofs.Ytkhddecnllcaiaa
open Go.Abs Go
attribute [local simp] avsEq avEq akind teq vkind vEq

end Go.Proofs.Ytkhddecnllcaiaa
end

section
/- Contracts: the reference's grounds. -/
namespace Go.Proofs.Ytkhddecnllcaiaa
open Go.Abs Go
attribute [local simp] avsEq avEq akind teq vkind vEq

end Go.Proofs.Ytkhddecnllcaiaa
end

section
/- Contracts: the reference's winner and derivation. -/
namespace Go.Proofs.Ytkhddecnllcaiaa
open Go.Abs Go
attribute [local simp] avsEq avEq akind teq vkind vEq

end Go.Proofs.Ytkhddecnllcaiaa
end

section
/- Contracts: the reference's derivation; comparisons of choices. -/
namespace Go.Proofs.Ytkhddecnllcaiaa
open Go.Abs Go
attribute [local simp] avsEq avEq akind teq vkind vEq

end Go.Proofs.Ytkhddecnllcaiaa
end

section
/- Contracts: the checks of the statements on grounds; the statement OrderDerives. -/
namespace Go.Proofs.Ytkhddecnllcaiaa
open Go.Abs Go
attribute [local simp] avsEq avEq akind teq vkind vEq

/-- A system, a word and grounds. -/
structure Case where
  rules : List Rule
  word : List Int
  grounds : List Int
@[simp] def caseV (x : Case) : AV := .agg [rulesV x.rules, ints x.word, ints x.grounds]
end Go.Proofs.Ytkhddecnllcaiaa
end

section
/- The statement OrderDerives as a contract. -/
namespace Go.Proofs.Ytkhddecnllcaiaa
open Go.Abs Go
attribute [local simp] avsEq avEq akind teq vkind vEq

end Go.Proofs.Ytkhddecnllcaiaa
end

section
/- Contracts: Winner and IsClear, and the statement OrderWinners. -/
namespace Go.Proofs.Ytkhddecnllcaiaa
open Go.Abs Go
attribute [local simp] avsEq avEq akind teq vkind vEq candS_eq

end Go.Proofs.Ytkhddecnllcaiaa
end

section
/- Contracts: two steps; Lasts, Decide, Beats. -/
namespace Go.Proofs.Ytkhddecnllcaiaa
open Go.Abs Go
attribute [local simp] avsEq avEq akind teq vkind vEq candS_eq

theorem weakL_map {α : Type} (f : α → AV) (h : ∀ x, weak (f x) = f x) : ∀ l : List α, weakL (l.map f) = l.map f
  | [] => rfl
  | x :: l => by simp only [List.map_cons, weakL, h x, weakL_map f h l]
@[simp] theorem weakL_iv (l : List Int) : weakL (l.map iv) = l.map iv := weakL_map iv (fun _ => rfl) l
theorem weak_rule (r : Rule) : weak (ruleV r) = ruleV r := by simp [weak, weakL]
@[simp] theorem weakL_rule (l : List Rule) : weakL (l.map ruleV) = l.map ruleV := weakL_map ruleV weak_rule l
end Go.Proofs.Ytkhddecnllcaiaa
end

section
/- Contracts: Lasts, Decide, Beats, and their statements. -/
namespace Go.Proofs.Ytkhddecnllcaiaa
open Go.Abs Go
attribute [local simp] avsEq avEq akind teq vkind vEq candS_eq

/-- Two steps. -/
@[simp] def twoV (p : Step × Step) : AV := .agg [iv p.1.rule, iv p.1.place, iv p.2.rule, iv p.2.place]
end Go.Proofs.Ytkhddecnllcaiaa
end

section
/- Contracts: the statement OrderBeats; CheckDerivation, and the statement OrderChecks. -/
namespace Go.Proofs.Ytkhddecnllcaiaa
open Go.Abs Go
attribute [local simp] avsEq avEq akind teq vkind vEq candS_eq

end Go.Proofs.Ytkhddecnllcaiaa
end

section
/- Plain: words in ascending order; a list into which words are put in order; words by a queue and by going deep are the same. -/
namespace Go.Proofs.Ytkhddecnllcaiaa
open Go.Abs Go

theorem el_mem_of {α : Type} [Inhabited α] (o : List α) (k : Nat) (h : k < o.length) : el o k ∈ o := by rw [el_eq o k h]; exact List.getElem_mem h
/-- Whether a word comes before another one. -/
def bef : List Int → List Int → Bool
  | _, [] => false
  | [], _ :: _ => true
  | x :: a, y :: b => if x = y then bef a b else decide (x < y)
theorem bef_irr : ∀ a : List Int, bef a a = false
  | [] => rfl
  | x :: a => by simp [bef, bef_irr a]
theorem bef_trans : ∀ {a b c : List Int}, bef a b = true → bef b c = true → bef a c = true
  | [], [], c, h, _ => by simp [bef] at h
  | _ :: _, [], c, h, _ => by simp [bef] at h
  | a, _ :: _, [], _, h => by simp [bef] at h
  | [], _ :: _, _ :: _, _, _ => rfl
  | x :: a, y :: b, z :: c, h1, h2 => by
    simp only [bef] at h1 h2 ⊢
    by_cases e1 : x = y
    · subst e1
      by_cases e2 : x = z
      · subst e2
        simp only [if_true] at h1 h2 ⊢
        exact bef_trans h1 h2
      · rw [if_neg e2] at h2 ⊢
        exact h2
    · rw [if_neg e1] at h1
      simp only [decide_eq_true_eq] at h1
      by_cases e2 : y = z
      · subst e2
        rw [if_neg e1]
        simpa using h1
      · rw [if_neg e2] at h2
        simp only [decide_eq_true_eq] at h2
        rw [if_neg (by omega)]
        simp only [decide_eq_true_eq]
        omega
theorem bef_total : ∀ {a b : List Int}, a ≠ b → bef a b = true ∨ bef b a = true
  | [], [], h => absurd rfl h
  | [], _ :: _, _ => .inl rfl
  | _ :: _, [], _ => .inr rfl
  | x :: a, y :: b, h => by
    simp only [bef]
    by_cases e : x = y
    · subst e
      simp only [if_true]
      exact bef_total fun e => h (by rw [e])
    · have e' : ¬ y = x := fun q => e q.symm
      rw [if_neg e, if_neg e']
      simp only [decide_eq_true_eq]
      omega
theorem bef_asymm {a b : List Int} (h : bef a b = true) : bef b a = false := by
  cases h2 : bef b a with
  | false => rfl
  | true =>
    have := bef_trans h h2
    rw [bef_irr] at this
    cases this
def sortedW (l : List (List Int)) : Prop := l.Pairwise fun a b => bef a b = true
/-- Lists in order with the same members are equal. -/
theorem sorted_eq : ∀ {l m : List (List Int)}, sortedW l → sortedW m → (∀ x, x ∈ l ↔ x ∈ m) → l = m
  | [], [], _, _, _ => rfl
  | [], y :: m, _, _, h => by have := (h y).2 (by simp); cases this
  | x :: l, [], _, _, h => by have := (h x).1 (by simp); cases this
  | x :: l, y :: m, hl, hm, h => by
    unfold sortedW at hl hm
    rw [List.pairwise_cons] at hl hm
    have hxy : x = y := by
      rcases List.mem_cons.1 ((h x).1 (by simp)) with e | hx
      · exact e
      · rcases List.mem_cons.1 ((h y).2 (by simp)) with e | hy
        · exact e.symm
        · have h1 := hl.1 y hy
          have h2 := hm.1 x hx
          rw [bef_asymm h1] at h2
          cases h2
    subst hxy
    rw [sorted_eq hl.2 hm.2 fun z => ?_]
    have hz := h z
    simp only [List.mem_cons] at hz
    constructor
    · intro hzl
      rcases hz.1 (.inr hzl) with e | e
      · subst e
        have := hl.1 z hzl
        rw [bef_irr] at this; cases this
      · exact e
    · intro hzm
      rcases hz.2 (.inr hzm) with e | e
      · subst e
        have := hm.1 z hzm
        rw [bef_irr] at this; cases this
      · exact e

end Go.Proofs.Ytkhddecnllcaiaa
end
