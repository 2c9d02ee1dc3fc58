/- Part 3 of the proof: the value layer and the contracts of the functions that the statement reaches; proved without conditions beyond those each theorem states. -/
import Derived.Test.YtaooenmkofjafaaProg
import Derived.Test.YtaooenmkofjafaaV2
set_option linter.unusedSimpArgs false
set_option linter.unusedVariables false

section
/- The table of types of the cut, and that it is right. (written by types.py) -/
set_option maxRecDepth 8000
namespace Go.Proofs.Ytaooenmkofjafaa
open Go.Abs

def rows : List (Nat × TI) := [
  (2, ⟨1, 8, .int .i64, .raw (.int .i64 0), false⟩),
  (3, ⟨1, 8, .int .i64, .raw (.int .i64 0), false⟩),
  (4, ⟨1, 1, .bool, .raw (.bool false), false⟩),
  (5, ⟨1, 1, .int .u8, .raw (.int .u8 0), false⟩),
  (9, ⟨1, 16, .str, .raw (.string ByteArray.empty), false⟩),
  (12, ⟨1, 8, .int .u64, .raw (.int .u64 0), false⟩),
  (13, ⟨2, 24, .struct [(0, 1, 9), (1, 1, 12)], .agg [.raw (.string ByteArray.empty), .raw (.int .u64 0)], false⟩),
  (21, ⟨1, 4, .int .i32, .raw (.int .i32 0), false⟩),
  (22, ⟨1, 24, .slice 72, .seq 4 [] true, false⟩),
  (23, ⟨1, 24, .slice 3, .seq 1 [] true, false⟩),
  (24, ⟨3, 72, .struct [(0, 1, 22), (1, 1, 23), (2, 1, 23)], .agg [.seq 4 [] true, .seq 1 [] true, .seq 1 [] true], false⟩),
  (25, ⟨3, 72, .struct [(0, 1, 22), (1, 1, 23), (2, 1, 23)], .agg [.seq 4 [] true, .seq 1 [] true, .seq 1 [] true], false⟩),
  (28, ⟨1, 24, .slice 37, .seq 3 [] true, false⟩),
  (29, ⟨1, 8, .int .i64, .raw (.int .i64 0), false⟩),
  (36, ⟨3, 24, .struct [(0, 1, 3), (1, 1, 3), (2, 1, 3)], .agg [.raw (.int .i64 0), .raw (.int .i64 0), .raw (.int .i64 0)], true⟩),
  (37, ⟨3, 24, .struct [(0, 1, 3), (1, 1, 3), (2, 1, 3)], .agg [.raw (.int .i64 0), .raw (.int .i64 0), .raw (.int .i64 0)], true⟩),
  (45, ⟨2, 16, .struct [(0, 1, 3), (1, 1, 3)], .agg [.raw (.int .i64 0), .raw (.int .i64 0)], true⟩),
  (46, ⟨2, 16, .struct [(0, 1, 3), (1, 1, 3)], .agg [.raw (.int .i64 0), .raw (.int .i64 0)], true⟩),
  (47, ⟨4, 32, .struct [(0, 2, 46), (2, 2, 46)], .agg [.raw (.int .i64 0), .raw (.int .i64 0), .raw (.int .i64 0), .raw (.int .i64 0)], false⟩),
  (48, ⟨4, 32, .struct [(0, 2, 46), (2, 2, 46)], .agg [.raw (.int .i64 0), .raw (.int .i64 0), .raw (.int .i64 0), .raw (.int .i64 0)], false⟩),
  (60, ⟨2, 16, .struct [(0, 1, 3), (1, 1, 3)], .agg [.raw (.int .i64 0), .raw (.int .i64 0)], true⟩),
  (61, ⟨2, 16, .struct [(0, 1, 3), (1, 1, 3)], .agg [.raw (.int .i64 0), .raw (.int .i64 0)], true⟩),
  (62, ⟨1, 24, .slice 23, .seq 1 [] true, false⟩),
  (71, ⟨4, 80, .struct [(0, 1, 3), (1, 1, 23), (2, 1, 23), (3, 1, 23)], .agg [.raw (.int .i64 0), .seq 1 [] true, .seq 1 [] true, .seq 1 [] true], false⟩),
  (72, ⟨4, 80, .struct [(0, 1, 3), (1, 1, 23), (2, 1, 23), (3, 1, 23)], .agg [.raw (.int .i64 0), .seq 1 [] true, .seq 1 [] true, .seq 1 [] true], false⟩),
  (73, ⟨8, 160, .struct [(0, 4, 72), (4, 4, 72)], .agg [.raw (.int .i64 0), .seq 1 [] true, .seq 1 [] true, .seq 1 [] true, .raw (.int .i64 0), .seq 1 [] true, .seq 1 [] true, .seq 1 [] true], false⟩),
  (74, ⟨8, 160, .struct [(0, 4, 72), (4, 4, 72)], .agg [.raw (.int .i64 0), .seq 1 [] true, .seq 1 [] true, .seq 1 [] true, .raw (.int .i64 0), .seq 1 [] true, .seq 1 [] true, .seq 1 [] true], false⟩),
  (88, ⟨1, 24, .slice 46, .seq 2 [] true, false⟩),
  (96, ⟨1, 8, .int .u64, .raw (.int .u64 0), false⟩),
  (117, ⟨1, 24, .slice 120, .seq 6 [] true, false⟩),
  (119, ⟨6, 96, .struct [(0, 2, 46), (2, 4, 72)], .agg [.raw (.int .i64 0), .raw (.int .i64 0), .raw (.int .i64 0), .seq 1 [] true, .seq 1 [] true, .seq 1 [] true], false⟩),
  (120, ⟨6, 96, .struct [(0, 2, 46), (2, 4, 72)], .agg [.raw (.int .i64 0), .raw (.int .i64 0), .raw (.int .i64 0), .seq 1 [] true, .seq 1 [] true, .seq 1 [] true], false⟩),
  (128, ⟨1, 8, .flat, .junk, false⟩),
  (143, ⟨1, 24, .slice 172, .seq 3 [] true, false⟩),
  (149, ⟨7, 7, .array 7 4, .agg [.raw (.bool false), .raw (.bool false), .raw (.bool false), .raw (.bool false), .raw (.bool false), .raw (.bool false), .raw (.bool false)], true⟩),
  (150, ⟨7, 7, .array 7 4, .agg [.raw (.bool false), .raw (.bool false), .raw (.bool false), .raw (.bool false), .raw (.bool false), .raw (.bool false), .raw (.bool false)], true⟩),
  (159, ⟨1, 8, .flat, .raw (.pointer none), false⟩),
  (162, ⟨1, 8, .map 9 3 .str, .raw (.map none), false⟩),
  (163, ⟨5, 104, .struct [(0, 1, 22), (1, 1, 62), (2, 1, 162), (3, 1, 23), (4, 1, 88)], .agg [.seq 4 [] true, .seq 1 [] true, .raw (.map none), .seq 1 [] true, .seq 2 [] true], false⟩),
  (164, ⟨5, 104, .struct [(0, 1, 22), (1, 1, 62), (2, 1, 162), (3, 1, 23), (4, 1, 88)], .agg [.seq 4 [] true, .seq 1 [] true, .raw (.map none), .seq 1 [] true, .seq 2 [] true], false⟩),
  (166, ⟨3, 72, .struct [(0, 1, 62), (1, 1, 62), (2, 1, 23)], .agg [.seq 1 [] true, .seq 1 [] true, .seq 1 [] true], false⟩),
  (167, ⟨3, 72, .struct [(0, 1, 62), (1, 1, 62), (2, 1, 23)], .agg [.seq 1 [] true, .seq 1 [] true, .seq 1 [] true], false⟩),
  (171, ⟨3, 40, .struct [(0, 2, 46), (2, 1, 23)], .agg [.raw (.int .i64 0), .raw (.int .i64 0), .seq 1 [] true], false⟩),
  (172, ⟨3, 40, .struct [(0, 2, 46), (2, 1, 23)], .agg [.raw (.int .i64 0), .raw (.int .i64 0), .seq 1 [] true], false⟩),
  (179, ⟨1, 24, .slice 180, .seq 1 [] true, false⟩),
  (180, ⟨1, 24, .slice 4, .seq 1 [] true, false⟩),
  (193, ⟨1, 8, .struct [(0, 1, 128)], .agg [.junk], false⟩),
  (194, ⟨1, 8, .struct [(0, 1, 128)], .agg [.junk], false⟩),
  (195, ⟨4, 32, .array 4 194, .agg [.junk, .junk, .junk, .junk], false⟩),
  (198, ⟨1, 24, .slice 29, .seq 1 [] true, false⟩),
  (216, ⟨1, 24, .slice 5, .seq 1 [] true, false⟩),
  (226, ⟨1, 8, .int .i64, .raw (.int .i64 0), false⟩),
  (233, ⟨1, 4, .int .u32, .raw (.int .u32 0), false⟩),
  (235, ⟨1, 8, .int .u64, .raw (.int .u64 0), false⟩),
  (240, ⟨1, 8, .int .u64, .raw (.int .u64 0), false⟩),
  (244, ⟨1, 8, .flat, .raw (.pointer none), false⟩),
  (246, ⟨1, 8, .flat, .raw (.pointer none), false⟩),
  (259, ⟨1, 8, .flat, .raw (.pointer none), false⟩)]
def T : TT := findT rows
theorem T_2 : T 2 = some ⟨1, 8, .int .i64, .raw (.int .i64 0), false⟩ := by kernel_rfl
theorem T_3 : T 3 = some ⟨1, 8, .int .i64, .raw (.int .i64 0), false⟩ := by kernel_rfl
theorem T_4 : T 4 = some ⟨1, 1, .bool, .raw (.bool false), false⟩ := by kernel_rfl
theorem T_5 : T 5 = some ⟨1, 1, .int .u8, .raw (.int .u8 0), false⟩ := by kernel_rfl
theorem T_9 : T 9 = some ⟨1, 16, .str, .raw (.string ByteArray.empty), false⟩ := by kernel_rfl
theorem T_12 : T 12 = some ⟨1, 8, .int .u64, .raw (.int .u64 0), false⟩ := by kernel_rfl
theorem T_13 : T 13 = some ⟨2, 24, .struct [(0, 1, 9), (1, 1, 12)], .agg [.raw (.string ByteArray.empty), .raw (.int .u64 0)], false⟩ := by kernel_rfl
theorem T_21 : T 21 = some ⟨1, 4, .int .i32, .raw (.int .i32 0), false⟩ := by kernel_rfl
theorem T_22 : T 22 = some ⟨1, 24, .slice 72, .seq 4 [] true, false⟩ := by kernel_rfl
theorem T_23 : T 23 = some ⟨1, 24, .slice 3, .seq 1 [] true, false⟩ := by kernel_rfl
theorem T_24 : T 24 = some ⟨3, 72, .struct [(0, 1, 22), (1, 1, 23), (2, 1, 23)], .agg [.seq 4 [] true, .seq 1 [] true, .seq 1 [] true], false⟩ := by kernel_rfl
theorem T_25 : T 25 = some ⟨3, 72, .struct [(0, 1, 22), (1, 1, 23), (2, 1, 23)], .agg [.seq 4 [] true, .seq 1 [] true, .seq 1 [] true], false⟩ := by kernel_rfl
theorem T_28 : T 28 = some ⟨1, 24, .slice 37, .seq 3 [] true, false⟩ := by kernel_rfl
theorem T_29 : T 29 = some ⟨1, 8, .int .i64, .raw (.int .i64 0), false⟩ := by kernel_rfl
theorem T_36 : T 36 = some ⟨3, 24, .struct [(0, 1, 3), (1, 1, 3), (2, 1, 3)], .agg [.raw (.int .i64 0), .raw (.int .i64 0), .raw (.int .i64 0)], true⟩ := by kernel_rfl
theorem T_37 : T 37 = some ⟨3, 24, .struct [(0, 1, 3), (1, 1, 3), (2, 1, 3)], .agg [.raw (.int .i64 0), .raw (.int .i64 0), .raw (.int .i64 0)], true⟩ := by kernel_rfl
theorem T_45 : T 45 = some ⟨2, 16, .struct [(0, 1, 3), (1, 1, 3)], .agg [.raw (.int .i64 0), .raw (.int .i64 0)], true⟩ := by kernel_rfl
theorem T_46 : T 46 = some ⟨2, 16, .struct [(0, 1, 3), (1, 1, 3)], .agg [.raw (.int .i64 0), .raw (.int .i64 0)], true⟩ := by kernel_rfl
theorem T_47 : T 47 = some ⟨4, 32, .struct [(0, 2, 46), (2, 2, 46)], .agg [.raw (.int .i64 0), .raw (.int .i64 0), .raw (.int .i64 0), .raw (.int .i64 0)], false⟩ := by kernel_rfl
theorem T_48 : T 48 = some ⟨4, 32, .struct [(0, 2, 46), (2, 2, 46)], .agg [.raw (.int .i64 0), .raw (.int .i64 0), .raw (.int .i64 0), .raw (.int .i64 0)], false⟩ := by kernel_rfl
theorem T_60 : T 60 = some ⟨2, 16, .struct [(0, 1, 3), (1, 1, 3)], .agg [.raw (.int .i64 0), .raw (.int .i64 0)], true⟩ := by kernel_rfl
theorem T_61 : T 61 = some ⟨2, 16, .struct [(0, 1, 3), (1, 1, 3)], .agg [.raw (.int .i64 0), .raw (.int .i64 0)], true⟩ := by kernel_rfl
theorem T_62 : T 62 = some ⟨1, 24, .slice 23, .seq 1 [] true, false⟩ := by kernel_rfl
theorem T_71 : T 71 = some ⟨4, 80, .struct [(0, 1, 3), (1, 1, 23), (2, 1, 23), (3, 1, 23)], .agg [.raw (.int .i64 0), .seq 1 [] true, .seq 1 [] true, .seq 1 [] true], false⟩ := by kernel_rfl
theorem T_72 : T 72 = some ⟨4, 80, .struct [(0, 1, 3), (1, 1, 23), (2, 1, 23), (3, 1, 23)], .agg [.raw (.int .i64 0), .seq 1 [] true, .seq 1 [] true, .seq 1 [] true], false⟩ := by kernel_rfl
theorem T_73 : T 73 = some ⟨8, 160, .struct [(0, 4, 72), (4, 4, 72)], .agg [.raw (.int .i64 0), .seq 1 [] true, .seq 1 [] true, .seq 1 [] true, .raw (.int .i64 0), .seq 1 [] true, .seq 1 [] true, .seq 1 [] true], false⟩ := by kernel_rfl
theorem T_74 : T 74 = some ⟨8, 160, .struct [(0, 4, 72), (4, 4, 72)], .agg [.raw (.int .i64 0), .seq 1 [] true, .seq 1 [] true, .seq 1 [] true, .raw (.int .i64 0), .seq 1 [] true, .seq 1 [] true, .seq 1 [] true], false⟩ := by kernel_rfl
theorem T_88 : T 88 = some ⟨1, 24, .slice 46, .seq 2 [] true, false⟩ := by kernel_rfl
theorem T_96 : T 96 = some ⟨1, 8, .int .u64, .raw (.int .u64 0), false⟩ := by kernel_rfl
theorem T_117 : T 117 = some ⟨1, 24, .slice 120, .seq 6 [] true, false⟩ := by kernel_rfl
theorem T_119 : T 119 = some ⟨6, 96, .struct [(0, 2, 46), (2, 4, 72)], .agg [.raw (.int .i64 0), .raw (.int .i64 0), .raw (.int .i64 0), .seq 1 [] true, .seq 1 [] true, .seq 1 [] true], false⟩ := by kernel_rfl
theorem T_120 : T 120 = some ⟨6, 96, .struct [(0, 2, 46), (2, 4, 72)], .agg [.raw (.int .i64 0), .raw (.int .i64 0), .raw (.int .i64 0), .seq 1 [] true, .seq 1 [] true, .seq 1 [] true], false⟩ := by kernel_rfl
theorem T_128 : T 128 = some ⟨1, 8, .flat, .junk, false⟩ := by kernel_rfl
theorem T_143 : T 143 = some ⟨1, 24, .slice 172, .seq 3 [] true, false⟩ := by kernel_rfl
theorem T_149 : T 149 = some ⟨7, 7, .array 7 4, .agg [.raw (.bool false), .raw (.bool false), .raw (.bool false), .raw (.bool false), .raw (.bool false), .raw (.bool false), .raw (.bool false)], true⟩ := by kernel_rfl
theorem T_150 : T 150 = some ⟨7, 7, .array 7 4, .agg [.raw (.bool false), .raw (.bool false), .raw (.bool false), .raw (.bool false), .raw (.bool false), .raw (.bool false), .raw (.bool false)], true⟩ := by kernel_rfl
theorem T_159 : T 159 = some ⟨1, 8, .flat, .raw (.pointer none), false⟩ := by kernel_rfl
theorem T_162 : T 162 = some ⟨1, 8, .map 9 3 .str, .raw (.map none), false⟩ := by kernel_rfl
theorem T_163 : T 163 = some ⟨5, 104, .struct [(0, 1, 22), (1, 1, 62), (2, 1, 162), (3, 1, 23), (4, 1, 88)], .agg [.seq 4 [] true, .seq 1 [] true, .raw (.map none), .seq 1 [] true, .seq 2 [] true], false⟩ := by kernel_rfl
theorem T_164 : T 164 = some ⟨5, 104, .struct [(0, 1, 22), (1, 1, 62), (2, 1, 162), (3, 1, 23), (4, 1, 88)], .agg [.seq 4 [] true, .seq 1 [] true, .raw (.map none), .seq 1 [] true, .seq 2 [] true], false⟩ := by kernel_rfl
theorem T_166 : T 166 = some ⟨3, 72, .struct [(0, 1, 62), (1, 1, 62), (2, 1, 23)], .agg [.seq 1 [] true, .seq 1 [] true, .seq 1 [] true], false⟩ := by kernel_rfl
theorem T_167 : T 167 = some ⟨3, 72, .struct [(0, 1, 62), (1, 1, 62), (2, 1, 23)], .agg [.seq 1 [] true, .seq 1 [] true, .seq 1 [] true], false⟩ := by kernel_rfl
theorem T_171 : T 171 = some ⟨3, 40, .struct [(0, 2, 46), (2, 1, 23)], .agg [.raw (.int .i64 0), .raw (.int .i64 0), .seq 1 [] true], false⟩ := by kernel_rfl
theorem T_172 : T 172 = some ⟨3, 40, .struct [(0, 2, 46), (2, 1, 23)], .agg [.raw (.int .i64 0), .raw (.int .i64 0), .seq 1 [] true], false⟩ := by kernel_rfl
theorem T_179 : T 179 = some ⟨1, 24, .slice 180, .seq 1 [] true, false⟩ := by kernel_rfl
theorem T_180 : T 180 = some ⟨1, 24, .slice 4, .seq 1 [] true, false⟩ := by kernel_rfl
theorem T_193 : T 193 = some ⟨1, 8, .struct [(0, 1, 128)], .agg [.junk], false⟩ := by kernel_rfl
theorem T_194 : T 194 = some ⟨1, 8, .struct [(0, 1, 128)], .agg [.junk], false⟩ := by kernel_rfl
theorem T_195 : T 195 = some ⟨4, 32, .array 4 194, .agg [.junk, .junk, .junk, .junk], false⟩ := by kernel_rfl
theorem T_198 : T 198 = some ⟨1, 24, .slice 29, .seq 1 [] true, false⟩ := by kernel_rfl
theorem T_216 : T 216 = some ⟨1, 24, .slice 5, .seq 1 [] true, false⟩ := by kernel_rfl
theorem T_226 : T 226 = some ⟨1, 8, .int .i64, .raw (.int .i64 0), false⟩ := by kernel_rfl
theorem T_233 : T 233 = some ⟨1, 4, .int .u32, .raw (.int .u32 0), false⟩ := by kernel_rfl
theorem T_235 : T 235 = some ⟨1, 8, .int .u64, .raw (.int .u64 0), false⟩ := by kernel_rfl
theorem T_240 : T 240 = some ⟨1, 8, .int .u64, .raw (.int .u64 0), false⟩ := by kernel_rfl
theorem T_244 : T 244 = some ⟨1, 8, .flat, .raw (.pointer none), false⟩ := by kernel_rfl
theorem T_246 : T 246 = some ⟨1, 8, .flat, .raw (.pointer none), false⟩ := by kernel_rfl
theorem T_259 : T 259 = some ⟨1, 8, .flat, .raw (.pointer none), false⟩ := by kernel_rfl

theorem tokRows : (rows.all fun r => rowOK Try.prog r.1 r.2) = true := by kernel_rfl
theorem mixed : Try.prog.follows .mixedOrders = true := by kernel_rfl
theorem eqRows : ∀ r ∈ rows.filter fun r => r.2.eq, EqR Try.prog r.1 r.2.zero := by
  intro r hr
  have he : rows.filter (fun r => r.2.eq) = [(36, ⟨3, 24, .struct [(0, 1, 3), (1, 1, 3), (2, 1, 3)], .agg [.raw (.int .i64 0), .raw (.int .i64 0), .raw (.int .i64 0)], true⟩), (37, ⟨3, 24, .struct [(0, 1, 3), (1, 1, 3), (2, 1, 3)], .agg [.raw (.int .i64 0), .raw (.int .i64 0), .raw (.int .i64 0)], true⟩), (45, ⟨2, 16, .struct [(0, 1, 3), (1, 1, 3)], .agg [.raw (.int .i64 0), .raw (.int .i64 0)], true⟩), (46, ⟨2, 16, .struct [(0, 1, 3), (1, 1, 3)], .agg [.raw (.int .i64 0), .raw (.int .i64 0)], true⟩), (60, ⟨2, 16, .struct [(0, 1, 3), (1, 1, 3)], .agg [.raw (.int .i64 0), .raw (.int .i64 0)], true⟩), (61, ⟨2, 16, .struct [(0, 1, 3), (1, 1, 3)], .agg [.raw (.int .i64 0), .raw (.int .i64 0)], true⟩), (149, ⟨7, 7, .array 7 4, .agg [.raw (.bool false), .raw (.bool false), .raw (.bool false), .raw (.bool false), .raw (.bool false), .raw (.bool false), .raw (.bool false)], true⟩), (150, ⟨7, 7, .array 7 4, .agg [.raw (.bool false), .raw (.bool false), .raw (.bool false), .raw (.bool false), .raw (.bool false), .raw (.bool false), .raw (.bool false)], true⟩)] := rfl
  rw [he] at hr
  simp only [List.mem_cons, List.not_mem_nil, or_false] at hr
  rcases hr with rfl | rfl | rfl | rfl | rfl | rfl | rfl | rfl
  · exact eqR_struct Try.underlying36 Try.stoodInHeld36 Try.eqGuardType36 (by kernel_rfl)
  · exact eqR_struct Try.underlying37 Try.stoodInHeld37 Try.eqGuardType37 (by kernel_rfl)
  · exact eqR_struct Try.underlying45 Try.stoodInHeld45 Try.eqGuardType45 (by kernel_rfl)
  · exact eqR_struct Try.underlying46 Try.stoodInHeld46 Try.eqGuardType46 (by kernel_rfl)
  · exact eqR_struct Try.underlying60 Try.stoodInHeld60 Try.eqGuardType60 (by kernel_rfl)
  · exact eqR_struct Try.underlying61 Try.stoodInHeld61 Try.eqGuardType61 (by kernel_rfl)
  · exact eqR_arr7 Try.underlying149 Try.underlying4 (fun w => Try.sizeOf4 w) Try.eqGuardType149
  · exact eqR_arr7 Try.underlying150 Try.underlying4 (fun w => Try.sizeOf4 w) Try.eqGuardType150
theorem tok : TOK Try.prog T := tok_of rows tokRows fun r hr he => eqRows r (List.mem_filter.2 ⟨hr, he⟩)
attribute [irreducible] T
end Go.Proofs.Ytaooenmkofjafaa
end

section
/- Functions of the cut as the value layer reads them. (written by gen.py) -/
set_option maxRecDepth 20000
namespace Go.Proofs.Ytaooenmkofjafaa
open Go.Abs Go

def A33 : ACode :=
  (.seq (.reg [] [⟨some 4, (.assign (.const (.bool false))), 4, none⟩])
    (.seq (.seq (.reg [] [⟨some 6, (.move (.tmp 0)), 23, none⟩,
      ⟨some 7, (.call ⟨(.builtin .len), #[(.tmp 6)], #[23]⟩), 3, none⟩,
      ⟨some 8, (.move (.tmp 1)), 23, none⟩,
      ⟨some 9, (.call ⟨(.builtin .len), #[(.tmp 8)], #[23]⟩), 3, none⟩,
      ⟨some 10, (.binOp .neq 3 (.tmp 7) (.tmp 9) 3), 4, none⟩])
    (.cond (.tmp 10)
    (.seq (.reg [] [⟨some 4, (.assign (.const (.bool false))), 4, none⟩])
    .ret)
    .skip))
    (.seq (.seq (.reg [] [⟨some 5, (.assign (.const (.int .i64 0))), 3, none⟩])
    (.block 0 (.loop (.seq (.seq (.reg [] [⟨some 11, (.move (.tmp 5)), 3, none⟩,
      ⟨some 12, (.move (.tmp 0)), 23, none⟩,
      ⟨some 13, (.call ⟨(.builtin .len), #[(.tmp 12)], #[23]⟩), 3, none⟩,
      ⟨some 14, (.binOp .lss 3 (.tmp 11) (.tmp 13) 3), 4, none⟩])
    (.cond (.tmp 14)
    .skip
    (.exit 0)))
    (.seq (.block 1 (.seq (.draw [] [⟨some 17, (.move (.tmp 0)), 23, none⟩,
      ⟨some 18, (.move (.tmp 5)), 3, none⟩,
      ⟨some 19, (.indexAddr 23 (.tmp 17) (.tmp 18)), 0, none⟩,
      ⟨some 20, (.load 3 (.tmp 19)), 3, none⟩,
      ⟨some 21, (.move (.tmp 1)), 23, none⟩,
      ⟨some 22, (.move (.tmp 5)), 3, none⟩,
      ⟨some 23, (.indexAddr 23 (.tmp 21) (.tmp 22)), 0, none⟩,
      ⟨some 24, (.load 3 (.tmp 23)), 3, none⟩,
      ⟨some 25, (.binOp .neq 3 (.tmp 20) (.tmp 24) 3), 4, none⟩] [(0, 1), (0, 4), (1, 4), (2, 4), (3, 4), (0, 5), (1, 5), (2, 5), (3, 5), (4, 5), (0, 6), (1, 6), (2, 6), (3, 6), (0, 7), (1, 7), (2, 7), (3, 7)])
    (.cond (.tmp 25)
    (.seq (.reg [] [⟨some 4, (.assign (.const (.bool false))), 4, none⟩])
    .ret)
    .skip)))
    (.reg [] [⟨some 15, (.move (.tmp 5)), 3, none⟩,
      ⟨some 16, (.binOp .add 3 (.tmp 15) (.const (.int .i64 1)) 3), 3, none⟩,
      ⟨some 5, (.assign (.tmp 16)), 3, none⟩]))))))
    (.seq (.reg [] [⟨some 4, (.assign (.const (.bool true))), 4, none⟩])
    .ret))))
theorem C33 {args : List AV} {r : AV} (hn : args.length ≤ 26) (h : vc Try.prog T [] A33 (Fin T [(.tmp 4)] r) ⟨envOf 0 args, []⟩) : CallP Try.prog 33 args r :=
  callP_of tok mixed Try.func33 (by kernel_rfl) (by kernel_rfl) (by kernel_rfl : Try.f33.ntmps = 26) (by kernel_rfl : Try.f33.body.bind (strip 26 (fun _ => [])) = some A33) hn h
def A173 : ACode :=
  (.seq (.reg [] [⟨some 6, (.assign (.const (.bool false))), 4, none⟩])
    (.seq (.reg [] [⟨some 7, (.move (.tmp 0)), 3, none⟩,
      ⟨some 8, (.move (.tmp 1)), 3, none⟩,
      ⟨some 9, (.binOp .geq 3 (.tmp 7) (.tmp 8) 3), 4, none⟩,
      ⟨some 10, (.move (.tmp 9)), 4, none⟩,
      ⟨some 11, (.move (.tmp 0)), 3, some (10, true)⟩,
      ⟨some 12, (.move (.tmp 2)), 3, some (10, true)⟩,
      ⟨some 13, (.binOp .leq 3 (.tmp 11) (.tmp 12) 3), 4, some (10, true)⟩,
      ⟨some 14, (.pick (.tmp 10) (.tmp 13) (.const (.bool false))), 4, none⟩,
      ⟨some 6, (.assign (.tmp 14)), 4, none⟩])
    .ret))
theorem C173 {args : List AV} {r : AV} (hn : args.length ≤ 15) (h : vc Try.prog T [] A173 (Fin T [(.tmp 6)] r) ⟨envOf 0 args, []⟩) : CallP Try.prog 173 args r :=
  callP_of tok mixed Try.func173 (by kernel_rfl) (by kernel_rfl) (by kernel_rfl : Try.f173.ntmps = 15) (by kernel_rfl : Try.f173.body.bind (strip 15 (fun _ => [])) = some A173) hn h
def A27 : ACode :=
  (.seq (.reg [] [⟨some 1, (.box 25 (.tmp 0)), 0, none⟩,
      ⟨some 2, (.assign (.const (.bool false))), 4, none⟩])
    (.seq (.seq (.reg [] [⟨some 3, (.assign (.const (.int .i64 0))), 3, none⟩])
    (.block 0 (.loop (.seq (.seq (.reg [] [⟨some 4, (.move (.tmp 3)), 3, none⟩,
      ⟨some 5, (.fieldAddr 25 (.tmp 1) 0), 0, none⟩,
      ⟨some 6, (.load 22 (.tmp 5)), 22, none⟩,
      ⟨some 7, (.call ⟨(.builtin .len), #[(.tmp 6)], #[22]⟩), 3, none⟩,
      ⟨some 8, (.binOp .lss 3 (.tmp 4) (.tmp 7) 3), 4, none⟩])
    (.cond (.tmp 8)
    .skip
    (.exit 0)))
    (.seq (.block 1 (.seq (.reg [] [⟨some 11, (.fieldAddr 25 (.tmp 1) 0), 0, none⟩,
      ⟨some 12, (.load 22 (.tmp 11)), 22, none⟩,
      ⟨some 13, (.move (.tmp 3)), 3, none⟩,
      ⟨some 14, (.indexAddr 22 (.tmp 12) (.tmp 13)), 0, none⟩,
      ⟨some 15, (.fieldAddr 72 (.tmp 14) 1), 0, none⟩,
      ⟨some 16, (.load 23 (.tmp 15)), 23, none⟩,
      ⟨some 17, (.call ⟨(.builtin .len), #[(.tmp 16)], #[23]⟩), 3, none⟩,
      ⟨some 18, (.binOp .gtr 3 (.tmp 17) (.const (.int .i64 50)) 3), 4, none⟩,
      ⟨some 19, (.move (.tmp 18)), 4, none⟩,
      ⟨some 20, (.fieldAddr 25 (.tmp 1) 0), 0, some (19, false)⟩,
      ⟨some 21, (.load 22 (.tmp 20)), 22, some (19, false)⟩,
      ⟨some 22, (.move (.tmp 3)), 3, some (19, false)⟩,
      ⟨some 23, (.indexAddr 22 (.tmp 21) (.tmp 22)), 0, some (19, false)⟩,
      ⟨some 24, (.fieldAddr 72 (.tmp 23) 2), 0, some (19, false)⟩,
      ⟨some 25, (.load 23 (.tmp 24)), 23, some (19, false)⟩,
      ⟨some 26, (.call ⟨(.builtin .len), #[(.tmp 25)], #[23]⟩), 3, some (19, false)⟩,
      ⟨some 27, (.binOp .gtr 3 (.tmp 26) (.const (.int .i64 50)) 3), 4, some (19, false)⟩,
      ⟨some 28, (.pick (.tmp 19) (.const (.bool true)) (.tmp 27)), 4, none⟩,
      ⟨some 29, (.move (.tmp 28)), 4, none⟩,
      ⟨some 30, (.fieldAddr 25 (.tmp 1) 0), 0, some (29, false)⟩,
      ⟨some 31, (.load 22 (.tmp 30)), 22, some (29, false)⟩,
      ⟨some 32, (.move (.tmp 3)), 3, some (29, false)⟩,
      ⟨some 33, (.indexAddr 22 (.tmp 31) (.tmp 32)), 0, some (29, false)⟩,
      ⟨some 34, (.fieldAddr 72 (.tmp 33) 3), 0, some (29, false)⟩,
      ⟨some 35, (.load 23 (.tmp 34)), 23, some (29, false)⟩,
      ⟨some 36, (.call ⟨(.builtin .len), #[(.tmp 35)], #[23]⟩), 3, some (29, false)⟩,
      ⟨some 37, (.binOp .gtr 3 (.tmp 36) (.const (.int .i64 50)) 3), 4, some (29, false)⟩,
      ⟨some 38, (.pick (.tmp 29) (.const (.bool true)) (.tmp 37)), 4, none⟩])
    (.cond (.tmp 38)
    (.seq (.reg [] [⟨some 2, (.assign (.const (.bool true))), 4, none⟩])
    .ret)
    .skip)))
    (.reg [] [⟨some 9, (.move (.tmp 3)), 3, none⟩,
      ⟨some 10, (.binOp .add 3 (.tmp 9) (.const (.int .i64 1)) 3), 3, none⟩,
      ⟨some 3, (.assign (.tmp 10)), 3, none⟩]))))))
    (.seq (.reg [] [⟨some 39, (.fieldAddr 25 (.tmp 1) 0), 0, none⟩,
      ⟨some 40, (.load 22 (.tmp 39)), 22, none⟩,
      ⟨some 41, (.call ⟨(.builtin .len), #[(.tmp 40)], #[22]⟩), 3, none⟩,
      ⟨some 42, (.binOp .gtr 3 (.tmp 41) (.const (.int .i64 50)) 3), 4, none⟩,
      ⟨some 43, (.move (.tmp 42)), 4, none⟩,
      ⟨some 44, (.fieldAddr 25 (.tmp 1) 1), 0, some (43, false)⟩,
      ⟨some 45, (.load 23 (.tmp 44)), 23, some (43, false)⟩,
      ⟨some 46, (.call ⟨(.builtin .len), #[(.tmp 45)], #[23]⟩), 3, some (43, false)⟩,
      ⟨some 47, (.binOp .gtr 3 (.tmp 46) (.const (.int .i64 50)) 3), 4, some (43, false)⟩,
      ⟨some 48, (.pick (.tmp 43) (.const (.bool true)) (.tmp 47)), 4, none⟩,
      ⟨some 49, (.move (.tmp 48)), 4, none⟩,
      ⟨some 50, (.fieldAddr 25 (.tmp 1) 2), 0, some (49, false)⟩,
      ⟨some 51, (.load 23 (.tmp 50)), 23, some (49, false)⟩,
      ⟨some 52, (.call ⟨(.builtin .len), #[(.tmp 51)], #[23]⟩), 3, some (49, false)⟩,
      ⟨some 53, (.binOp .gtr 3 (.tmp 52) (.const (.int .i64 50)) 3), 4, some (49, false)⟩,
      ⟨some 54, (.pick (.tmp 49) (.const (.bool true)) (.tmp 53)), 4, none⟩,
      ⟨some 2, (.assign (.tmp 54)), 4, none⟩])
    .ret)))
theorem C27 {args : List AV} {r : AV} (hn : args.length ≤ 55) (h : vc Try.prog T [] A27 (Fin T [(.tmp 2)] r) ⟨envOf 0 args, []⟩) : CallP Try.prog 27 args r :=
  callP_of tok mixed Try.func27 (by kernel_rfl) (by kernel_rfl) (by kernel_rfl : Try.f27.ntmps = 55) (by kernel_rfl : Try.f27.body.bind (strip 55 (fun _ => [])) = some A27) hn h
def A152 : ACode :=
  (.seq (.reg [] [⟨some 2, (.assign (.const (.slice none 0 0))), 23, none⟩])
    (.seq (.seq (.reg [] [⟨some 3, (.move (.tmp 0)), 23, none⟩,
      ⟨some 4, (.binOp .eql 23 (.tmp 3) (.const (.slice none 0 0)) 23), 4, none⟩])
    (.cond (.tmp 4)
    (.seq (.reg [] [⟨some 2, (.assign (.const (.slice none 0 0))), 23, none⟩])
    .ret)
    .skip))
    (.seq (.reg [] [⟨some 5, (.buildSlice 23 0 #[]), 23, none⟩,
      ⟨some 6, (.move (.tmp 0)), 23, none⟩,
      ⟨some 7, (.call ⟨(.builtin .append), #[(.tmp 5), (.tmp 6)], #[23, 23]⟩), 23, none⟩,
      ⟨some 2, (.assign (.tmp 7)), 23, none⟩])
    .ret)))
theorem CO152 {args : List AV} {sz : Nat} {els : List AV} (hn : args.length ≤ 8) (h : vc Try.prog T [] A152 (FinO [(.tmp 2)] sz els) ⟨envOf 0 args, []⟩) : CallO Try.prog 152 args sz els :=
  callO_of tok mixed Try.func152 (by kernel_rfl) (by kernel_rfl) (by kernel_rfl : Try.f152.ntmps = 8) (by kernel_rfl : Try.f152.body.bind (strip 8 (fun _ => [])) = some A152) hn h
def A231 : ACode :=
  (.seq (.reg [] [⟨some 4, (.assign (.const (.slice none 0 0))), 23, none⟩])
    (.seq (.seq (.reg [] [⟨some 5, (.move (.tmp 1)), 3, none⟩,
      ⟨some 6, (.binOp .lss 3 (.tmp 5) (.const (.int .i64 0)) 3), 4, none⟩])
    (.cond (.tmp 6)
    (.reg [] [⟨some 7, (.makeInterface 9 (.const (.string ⟨#[99, 97, 110, 110, 111, 116, 32, 98, 101, 32, 110, 101, 103, 97, 116, 105, 118, 101]⟩))), 20, none⟩,
      ⟨none, (.panic (.tmp 7)), 0, none⟩])
    .skip))
    (.seq (.seq (.reg [] [⟨some 8, (.move (.tmp 1)), 3, none⟩,
      ⟨some 9, (.move (.tmp 0)), 23, none⟩,
      ⟨some 10, (.call ⟨(.builtin .cap), #[(.tmp 9)], #[23]⟩), 3, none⟩,
      ⟨some 11, (.move (.tmp 0)), 23, none⟩,
      ⟨some 12, (.call ⟨(.builtin .len), #[(.tmp 11)], #[23]⟩), 3, none⟩,
      ⟨some 13, (.binOp .sub 3 (.tmp 10) (.tmp 12) 3), 3, none⟩,
      ⟨some 14, (.binOp .sub 3 (.tmp 8) (.tmp 13) 3), 3, none⟩,
      ⟨some 1, (.assign (.tmp 14)), 3, none⟩])
    (.seq (.reg [] [⟨some 15, (.move (.tmp 1)), 3, none⟩,
      ⟨some 16, (.binOp .gtr 3 (.tmp 15) (.const (.int .i64 0)) 3), 4, none⟩])
    (.cond (.tmp 16)
    (.reg [] [⟨some 17, (.move (.tmp 0)), 23, none⟩,
      ⟨some 18, (.move (.tmp 0)), 23, none⟩,
      ⟨some 19, (.call ⟨(.builtin .cap), #[(.tmp 18)], #[23]⟩), 3, none⟩,
      ⟨some 20, (.slice 23 (.tmp 17) none (some (.tmp 19)) none), 23, none⟩,
      ⟨some 21, (.move (.tmp 1)), 3, none⟩,
      ⟨some 22, (.call ⟨(.builtin .append), #[(.tmp 20), (.tmp 21)], #[23, 3]⟩), 23, none⟩,
      ⟨some 23, (.move (.tmp 0)), 23, none⟩,
      ⟨some 24, (.call ⟨(.builtin .len), #[(.tmp 23)], #[23]⟩), 3, none⟩,
      ⟨some 25, (.slice 23 (.tmp 22) none (some (.tmp 24)) none), 23, none⟩,
      ⟨some 0, (.assign (.tmp 25)), 23, none⟩])
    .skip)))
    (.seq (.reg [] [⟨some 26, (.move (.tmp 0)), 23, none⟩,
      ⟨some 4, (.assign (.tmp 26)), 23, none⟩])
    .ret))))
theorem CO231 {args : List AV} {sz : Nat} {els : List AV} (hn : args.length ≤ 27) (h : vc Try.prog T [] A231 (FinO [(.tmp 4)] sz els) ⟨envOf 0 args, []⟩) : CallO Try.prog 231 args sz els :=
  callO_of tok mixed Try.func231 (by kernel_rfl) (by kernel_rfl) (by kernel_rfl : Try.f231.ntmps = 27) (by kernel_rfl : Try.f231.body.bind (strip 27 (fun _ => [])) = some A231) hn h
def A207 : ACode :=
  (.seq (.reg [] [⟨some 2, (.assign (.const (.slice none 0 0))), 23, none⟩])
    (.seq (.reg [] [⟨some 3, (.assign (.const (.int .i64 0))), 3, none⟩])
    (.seq (.seq (.reg [] [⟨some 9, (.move (.tmp 0)), 62, none⟩,
      ⟨some 10, (.call ⟨(.builtin .len), #[(.tmp 9)], #[62]⟩), 3, none⟩,
      ⟨some 11, (.move (.const (.int .i64 0))), 3, none⟩])
    (.block 0 (.loop (.seq (.reg [] [⟨some 12, (.binOp .lss 3 (.tmp 11) (.tmp 10) 3), 0, none⟩])
    (.seq (.cond (.tmp 12)
    .skip
    (.exit 0))
    (.seq (.block 1 (.seq (.reg [] [⟨some 13, (.indexAddr 62 (.tmp 9) (.tmp 11)), 0, none⟩,
      ⟨some 14, (.load 23 (.tmp 13)), 23, none⟩,
      ⟨some 5, (.assign (.tmp 14)), 23, none⟩])
    (.seq (.reg [] [⟨some 15, (.move (.tmp 3)), 3, none⟩,
      ⟨some 16, (.move (.tmp 5)), 23, none⟩,
      ⟨some 17, (.call ⟨(.builtin .len), #[(.tmp 16)], #[23]⟩), 3, none⟩,
      ⟨some 18, (.binOp .add 3 (.tmp 15) (.tmp 17) 3), 3, none⟩,
      ⟨some 3, (.assign (.tmp 18)), 3, none⟩])
    (.seq (.reg [] [⟨some 19, (.move (.tmp 3)), 3, none⟩,
      ⟨some 20, (.binOp .lss 3 (.tmp 19) (.const (.int .i64 0)) 3), 4, none⟩])
    (.cond (.tmp 20)
    (.reg [] [⟨some 21, (.makeInterface 9 (.const (.string ⟨#[108, 101, 110, 32, 111, 117, 116, 32, 111, 102, 32, 114, 97, 110, 103, 101]⟩))), 20, none⟩,
      ⟨none, (.panic (.tmp 21)), 0, none⟩])
    .skip)))))
    (.reg [] [⟨some 22, (.binOp .add 3 (.tmp 11) (.const (.int .i64 1)) 3), 3, none⟩,
      ⟨some 11, (.move (.tmp 22)), 3, none⟩])))))))
    (.seq (.reg [] [⟨some 23, (.move (.tmp 3)), 3, none⟩,
      ⟨some 24, (.call ⟨(.value (.func 231)), #[(.const (.slice none 0 0)), (.tmp 23)], #[23, 3]⟩), 23, none⟩,
      ⟨some 6, (.assign (.tmp 24)), 23, none⟩])
    (.seq (.seq (.reg [] [⟨some 25, (.move (.tmp 0)), 62, none⟩,
      ⟨some 26, (.call ⟨(.builtin .len), #[(.tmp 25)], #[62]⟩), 3, none⟩,
      ⟨some 27, (.move (.const (.int .i64 0))), 3, none⟩])
    (.block 2 (.loop (.seq (.reg [] [⟨some 28, (.binOp .lss 3 (.tmp 27) (.tmp 26) 3), 0, none⟩])
    (.seq (.cond (.tmp 28)
    .skip
    (.exit 2))
    (.seq (.block 3 (.seq (.reg [] [⟨some 29, (.indexAddr 62 (.tmp 25) (.tmp 27)), 0, none⟩,
      ⟨some 30, (.load 23 (.tmp 29)), 23, none⟩,
      ⟨some 8, (.assign (.tmp 30)), 23, none⟩])
    (.reg [] [⟨some 31, (.move (.tmp 6)), 23, none⟩,
      ⟨some 32, (.move (.tmp 8)), 23, none⟩,
      ⟨some 33, (.call ⟨(.builtin .append), #[(.tmp 31), (.tmp 32)], #[23, 23]⟩), 23, none⟩,
      ⟨some 6, (.assign (.tmp 33)), 23, none⟩])))
    (.reg [] [⟨some 34, (.binOp .add 3 (.tmp 27) (.const (.int .i64 1)) 3), 3, none⟩,
      ⟨some 27, (.move (.tmp 34)), 3, none⟩])))))))
    (.seq (.reg [] [⟨some 35, (.move (.tmp 6)), 23, none⟩,
      ⟨some 2, (.assign (.tmp 35)), 23, none⟩])
    .ret))))))
theorem CO207 {args : List AV} {sz : Nat} {els : List AV} (hn : args.length ≤ 36) (h : vc Try.prog T [] A207 (FinO [(.tmp 2)] sz els) ⟨envOf 0 args, []⟩) : CallO Try.prog 207 args sz els :=
  callO_of tok mixed Try.func207 (by kernel_rfl) (by kernel_rfl) (by kernel_rfl : Try.f207.ntmps = 36) (by kernel_rfl : Try.f207.body.bind (strip 36 (fun _ => [])) = some A207) hn h

end Go.Proofs.Ytaooenmkofjafaa
end

section
/- The values of the program: numbers, words, rules, steps, choices. -/
namespace Go.Proofs.Ytaooenmkofjafaa
open Go.Abs Go

@[simp] def iv (n : Int) : AV := .raw (.int .i64 n)
@[simp] def bv (b : Bool) : AV := .raw (.bool b)
@[simp] def ints (l : List Int) : AV := .seq 1 (l.map iv) false
structure Rule where
  frm : Int
  to : List Int
  left : List Int
  right : List Int
deriving DecidableEq
instance : Inhabited Rule := ⟨⟨0, [], [], []⟩⟩
@[simp] def ruleV (r : Rule) : AV := .agg [iv r.frm, ints r.to, ints r.left, ints r.right]
@[simp] def rulesV (s : List Rule) : AV := .seq 4 (s.map ruleV) false
structure Step where
  rule : Int
  place : Int
deriving DecidableEq
instance : Inhabited Step := ⟨⟨0, 0⟩⟩
@[simp] def stepV (x : Step) : AV := .agg [iv x.rule, iv x.place]
@[simp] def stepsV (l : List Step) : AV := .seq 2 (l.map stepV) false
structure Choice where
  rule : Int
  place : Int
  ground : Int
deriving DecidableEq
instance : Inhabited Choice := ⟨⟨0, 0, 0⟩⟩
@[simp] def choiceV (x : Choice) : AV := .agg [iv x.rule, iv x.place, iv x.ground]
@[simp] def choicesV (l : List Choice) : AV := .seq 3 (l.map choiceV) false

@[simp] theorem nth_iv (l : List Int) (k : Nat) (h : k < l.length) : nth (l.map iv) k = iv (el l k) := nth_map iv l k h
@[simp] theorem nth_ints (l : List (List Int)) (k : Nat) (h : k < l.length) : nth (l.map ints) k = ints (el l k) := nth_map ints l k h
@[simp] theorem nth_rule (l : List Rule) (k : Nat) (h : k < l.length) : nth (l.map ruleV) k = ruleV (el l k) := nth_map ruleV l k h
@[simp] theorem nth_step (l : List Step) (k : Nat) (h : k < l.length) : nth (l.map stepV) k = stepV (el l k) := nth_map stepV l k h
@[simp] theorem nth_choice (l : List Choice) (k : Nat) (h : k < l.length) : nth (l.map choiceV) k = choiceV (el l k) := nth_map choiceV l k h

@[simp] theorem refsL_bv : ∀ l : List Bool, AV.refsL (l.map bv) = []
  | [] => rfl
  | b :: l => by simp [refsL_bv l]
@[simp] theorem snapL_bv (m : List (Nat × Option Box)) : ∀ l : List Bool, snapL m (l.map bv) = l.map bv
  | [] => rfl
  | b :: l => by simp [snapL_bv m l]
@[simp] theorem snapOKL_bv (m : List (Nat × Option Box)) : ∀ l : List Bool, snapOKL m (l.map bv)
  | [] => trivial
  | b :: l => ⟨trivial, snapOKL_bv m l⟩
@[simp] theorem nth_nil (k : Nat) : nth [] k = .junk := rfl
@[simp] theorem nth_len {α : Type} (f : α → AV) (l : List α) : nth (l.map f) l.length = .junk := by simp [nth, List.getD_eq_getElem?_getD]

attribute [simp] bad T_2 T_3 T_4 T_5 T_22 T_23 T_24 T_25 T_28 T_29 T_36 T_37 T_45 T_46 T_47 T_48 T_60 T_61 T_62 T_71 T_72 T_88 T_117 T_119 T_120 T_143 T_149 T_150 T_171 T_172 T_193 T_194 T_195 T_198
end Go.Proofs.Ytaooenmkofjafaa
end

section
/- Contracts: leaves. -/
namespace Go.Proofs.Ytaooenmkofjafaa
open Go.Abs Go
set_option maxRecDepth 20000
set_option maxHeartbeats 2000000
attribute [local irreducible] PreK CondK CallK CallG CallX LoopK

theorem sameInts_c (a b : List Int) (ha : a.length ≤ big) : CallP Try.prog 33 [ints a, ints b] (bv (decide (a = b))) := by
  refine C33 (by simp) ?_
  generalize hR : decide (a = b) = R
  simp [A33]
  refine CondK.intro (fun h => ?_) (fun h => ?_)
  · simp at h
    have : a ≠ b := fun e => h (by rw [e])
    simp [this] at hR
    simp [hR]
  · simp at h
    simp
    refine LoopK.by (fun i : Nat => ⟨[(5, iv i), (4, bv false), (0, ints a), (1, ints b)], []⟩) (fun i => a.length - i) (fun i => i ≤ a.length ∧ decide (a.drop i = b.drop i) = R) 0 (by simpa using hR) (by simp) ?_
    intro i Q' ⟨hi, hc⟩ hq he hr
    simp
    refine CondK.intro (fun h2 => ?_) (fun h2 => ?_)
    · simp at h2
      rw [drop_cons a i h2, drop_cons b i (by omega)] at hc
      simp [h2, show i < b.length by omega]
      refine CondK.intro (fun h3 => ?_) (fun h3 => ?_)
      · simp at h3
        simp [h3] at hc
        simp
        apply hr
        simp [hc]
      · simp at h3
        simp [h3] at hc
        simp
        refine PreK.intro (by simp only [big] at ha; omega) fun _ => ?_
        simp
        exact hq (i + 1) _ ⟨by omega, by simpa using hc⟩ (by omega) (by simp)
    · simp at h2
      rw [List.drop_eq_nil_of_le (by omega), List.drop_eq_nil_of_le (by omega)] at hc
      simp at hc
      simp
      apply he
      simp [hc]
end Go.Proofs.Ytaooenmkofjafaa
end

section
/- Contracts: grounds. -/
namespace Go.Proofs.Ytaooenmkofjafaa
open Go.Abs Go
set_option maxRecDepth 20000
set_option maxHeartbeats 2000000
attribute [local irreducible] PreK CondK CallK CallG CallX LoopK

def dups : List Int → List Int → Bool
  | _, [] => false
  | seen, x :: r => seen.contains x || dups (seen ++ [x]) r
def gBad (x : Int) : Bool := decide (x < 1) || decide (x > 4)
def gErr (g : List Int) : Int := if 4 < g.length then 3 else if g.any gBad then 1 else if dups [] g then 5 else 0

end Go.Proofs.Ytaooenmkofjafaa
end

section
/- Contracts: the library's slices. -/
namespace Go.Proofs.Ytaooenmkofjafaa
open Go.Abs Go
set_option maxRecDepth 20000
set_option maxHeartbeats 2000000
attribute [local irreducible] PreK CondK CallK CallG CallX LoopK

theorem clone_o (l : List Int) (hl : l.length ≤ 1000) : CallO Try.prog 152 [ints l] 1 (l.map iv) := by
  refine CO152 (by simp) ?_
  simp [A152, nilOK, nilArg, nilOf]
  intro b hb
  refine CondK.intro (fun h => ?_) (fun h => ?_)
  · simp at h
    have h2 := hb h
    simp at h2
    subst h2
    simp
  · simp
    refine PreK.intro (by omega) fun _ => ?_
    simp

theorem grow_o (n : Nat) (hn : n ≤ 1000) : CallO Try.prog 231 [.seq 1 [] true, iv n] 1 [] := by
  refine CO231 (by simp) ?_
  simp [A231]
  refine CondK.intro (fun h => ?_) (fun h => ?_)
  · simp at h
    omega
  · simp
    refine PreK.intro (by omega) fun _ => ?_
    simp
    refine CondK.intro (fun h => ?_) (fun h => ?_)
    · simp at h
      simp
      refine PreK.intro (by omega) fun _ => ?_
      simp
    · simp

theorem concat_o (ls : List (List Int)) (hn : ls.length ≤ 10) (hs : ls.flatten.length ≤ 900) : CallO Try.prog 207 [.seq 1 (ls.map ints) false] 1 (ls.flatten.map iv) := by
  refine CO207 (by simp) ?_
  generalize hR : ls.flatten = R at hs
  simp [A207]
  refine LoopK.by (ι := Nat × Nat) (fun i => ⟨[(11, iv i.1), (10, iv ls.length), (9, .seq 1 (ls.map ints) false), (0, .seq 1 (ls.map ints) false), (3, iv i.2)], []⟩) (fun i => ls.length - i.1)
    (fun i => i.1 ≤ ls.length ∧ i.2 + (ls.drop i.1).flatten.length = R.length) (0, 0) (by simp [← hR]) (by simp) ?_
  intro ⟨i, n⟩ Q' ⟨hi, hc⟩ hq he hr
  dsimp only at hi hc
  simp
  refine CondK.intro (fun h => ?_) (fun h => ?_)
  · simp at h
    rw [drop_cons ls i h, List.flatten_cons, List.length_append] at hc
    simp [h]
    refine PreK.intro (by omega) fun _ => ?_
    simp
    refine CondK.intro (fun h2 => ?_) (fun h2 => ?_)
    · simp at h2
      omega
    · simp
      refine PreK.intro (by omega) fun _ => ?_
      simp
      exact hq (i + 1, n + (el ls i).length) _ ⟨by dsimp only; omega, by dsimp only; omega⟩ (by dsimp only; omega) (by simp)
  · simp at h
    rw [List.drop_eq_nil_of_le (by omega)] at hc
    simp at hc
    simp
    apply he
    simp
    refine CallX.own' (by simpa using grow_o n (by omega)) (by simp) ?_
    simp
    clear hq he hr
    refine LoopK.by (ι := Nat × Nat × List Int) (fun i => ⟨[(27, iv i.1), (26, iv ls.length), (25, .seq 1 (ls.map ints) false), (6, .sl 24 i.2.1 0 i.2.2.length)], [(24, some ⟨1, i.2.2.map iv, i.2.1, false⟩)]⟩) (fun i => ls.length - i.1)
      (fun i => i.1 ≤ ls.length ∧ i.2.2 ++ (ls.drop i.1).flatten = R) (0, 1, []) (by simpa using hR) (by simp) ?_
    intro ⟨i, ver, acc⟩ Q' ⟨hi, hc⟩ hq he hr
    dsimp only at hi hc
    simp
    refine CondK.intro (fun h => ?_) (fun h => ?_)
    · simp at h
      rw [drop_cons ls i h, List.flatten_cons, ← List.append_assoc] at hc
      have hlen : acc.length + (el ls i).length ≤ 900 := by
        have := congrArg List.length hc
        simp only [List.length_append] at this
        omega
      simp [h]
      refine PreK.intro (by omega) fun _ => ?_
      simp
      refine PreK.intro (by omega) fun _ => ?_
      simp
      exact hq (i + 1, ver + 1, acc ++ el ls i) _ ⟨by dsimp only; omega, by dsimp only; exact hc⟩ (by dsimp only; omega) (by simp)
    · simp at h
      rw [List.drop_eq_nil_of_le (by omega)] at hc
      simp at hc
      simp
      apply he
      simp [hc]
end Go.Proofs.Ytaooenmkofjafaa
end

section
/- Functions of the cut as the value layer reads them. (written by gen.py) -/
set_option maxRecDepth 20000
namespace Go.Proofs.Ytaooenmkofjafaa
open Go.Abs Go

def A229 : ACode :=
  (.seq (.reg [] [⟨some 6, (.assign (.const (.bool false))), 4, none⟩])
    (.seq (.reg [] [⟨some 7, (.move (.tmp 1)), 3, none⟩,
      ⟨some 8, (.move (.tmp 0)), 3, none⟩,
      ⟨some 9, (.binOp .leq 3 (.tmp 7) (.tmp 8) 3), 4, none⟩,
      ⟨some 10, (.move (.tmp 9)), 4, none⟩,
      ⟨some 11, (.move (.tmp 0)), 3, some (10, true)⟩,
      ⟨some 12, (.move (.tmp 2)), 3, some (10, true)⟩,
      ⟨some 13, (.binOp .leq 3 (.tmp 11) (.tmp 12) 3), 4, some (10, true)⟩,
      ⟨some 14, (.pick (.tmp 10) (.tmp 13) (.const (.bool false))), 4, none⟩,
      ⟨some 6, (.assign (.tmp 14)), 4, none⟩])
    .ret))
theorem C229 {args : List AV} {r : AV} (hn : args.length ≤ 15) (h : vc Try.prog T [] A229 (Fin T [(.tmp 6)] r) ⟨envOf 0 args, []⟩) : CallP Try.prog 229 args r :=
  callP_of tok mixed Try.func229 (by kernel_rfl) (by kernel_rfl) (by kernel_rfl : Try.f229.ntmps = 15) (by kernel_rfl : Try.f229.body.bind (strip 15 (fun _ => [])) = some A229) hn h
def A228 : ACode :=
  (.seq (.reg [] [⟨some 2, (.assign (.const (.bool false))), 4, none⟩])
    (.seq (.reg [] [⟨some 3, (.move (.tmp 0)), 3, none⟩,
      ⟨some 4, (.call ⟨(.value (.func 229)), #[(.tmp 3), (.const (.int .i64 0)), (.const (.int .i64 5))], #[3, 3, 3]⟩), 4, none⟩,
      ⟨some 2, (.assign (.tmp 4)), 4, none⟩])
    .ret))
theorem C228 {args : List AV} {r : AV} (hn : args.length ≤ 5) (h : vc Try.prog T [] A228 (Fin T [(.tmp 2)] r) ⟨envOf 0 args, []⟩) : CallP Try.prog 228 args r :=
  callP_of tok mixed Try.func228 (by kernel_rfl) (by kernel_rfl) (by kernel_rfl : Try.f228.ntmps = 5) (by kernel_rfl : Try.f228.body.bind (strip 5 (fun _ => [])) = some A228) hn h
def A202 : ACode :=
  (.seq (.reg [] [⟨some 2, (.assign (.const (.bool false))), 4, none⟩])
    (.seq (.reg [] [⟨some 3, (.move (.tmp 0)), 3, none⟩,
      ⟨some 4, (.binOp .eql 3 (.tmp 3) (.const (.int .i64 (-1))) 3), 4, none⟩,
      ⟨some 5, (.move (.tmp 4)), 4, none⟩,
      ⟨some 6, (.move (.tmp 0)), 3, some (5, false)⟩,
      ⟨some 7, (.call ⟨(.value (.func 228)), #[(.tmp 6)], #[3]⟩), 4, some (5, false)⟩,
      ⟨some 8, (.pick (.tmp 5) (.const (.bool true)) (.tmp 7)), 4, none⟩,
      ⟨some 2, (.assign (.tmp 8)), 4, none⟩])
    .ret))
theorem C202 {args : List AV} {r : AV} (hn : args.length ≤ 9) (h : vc Try.prog T [] A202 (Fin T [(.tmp 2)] r) ⟨envOf 0 args, []⟩) : CallP Try.prog 202 args r :=
  callP_of tok mixed Try.func202 (by kernel_rfl) (by kernel_rfl) (by kernel_rfl : Try.f202.ntmps = 9) (by kernel_rfl : Try.f202.body.bind (strip 9 (fun _ => [])) = some A202) hn h
def A199 : ACode :=
  (.seq (.reg [] [⟨some 1, (.box 72 (.tmp 0)), 0, none⟩,
      ⟨some 2, (.assign (.const (.int .i64 0))), 3, none⟩])
    (.seq (.seq (.reg [] [⟨some 3, (.fieldAddr 72 (.tmp 1) 0), 0, none⟩,
      ⟨some 4, (.load 3 (.tmp 3)), 3, none⟩,
      ⟨some 5, (.binOp .eql 3 (.tmp 4) (.const (.int .i64 (-1))) 3), 4, none⟩])
    (.cond (.tmp 5)
    (.seq (.reg [] [⟨some 2, (.assign (.const (.int .i64 0))), 3, none⟩])
    .ret)
    .skip))
    (.seq (.reg [] [⟨some 2, (.assign (.const (.int .i64 1))), 3, none⟩])
    .ret)))
theorem C199 {args : List AV} {r : AV} (hn : args.length ≤ 6) (h : vc Try.prog T [] A199 (Fin T [(.tmp 2)] r) ⟨envOf 0 args, []⟩) : CallP Try.prog 199 args r :=
  callP_of tok mixed Try.func199 (by kernel_rfl) (by kernel_rfl) (by kernel_rfl : Try.f199.ntmps = 6) (by kernel_rfl : Try.f199.body.bind (strip 6 (fun _ => [])) = some A199) hn h
def A200 : ACode :=
  (.seq (.reg [] [⟨some 4, (.assign (.const (.int .i64 0))), 3, none⟩])
    (.seq (.seq (.reg [] [⟨some 5, (.move (.tmp 1)), 3, none⟩,
      ⟨some 6, (.move (.tmp 0)), 23, none⟩,
      ⟨some 7, (.call ⟨(.builtin .len), #[(.tmp 6)], #[23]⟩), 3, none⟩,
      ⟨some 8, (.binOp .sub 3 (.tmp 7) (.const (.int .i64 1)) 3), 3, none⟩,
      ⟨some 9, (.call ⟨(.value (.func 229)), #[(.tmp 5), (.const (.int .i64 0)), (.tmp 8)], #[3, 3, 3]⟩), 4, none⟩,
      ⟨some 10, (.unOp .not 4 (.tmp 9)), 4, none⟩])
    (.cond (.tmp 10)
    (.seq (.reg [] [⟨some 4, (.assign (.const (.int .i64 (-1)))), 3, none⟩])
    .ret)
    .skip))
    (.seq (.reg [] [⟨some 11, (.move (.tmp 0)), 23, none⟩,
      ⟨some 12, (.move (.tmp 1)), 3, none⟩,
      ⟨some 13, (.indexAddr 23 (.tmp 11) (.tmp 12)), 0, none⟩,
      ⟨some 14, (.load 3 (.tmp 13)), 3, none⟩,
      ⟨some 4, (.assign (.tmp 14)), 3, none⟩])
    .ret)))
theorem C200 {args : List AV} {r : AV} (hn : args.length ≤ 15) (h : vc Try.prog T [] A200 (Fin T [(.tmp 4)] r) ⟨envOf 0 args, []⟩) : CallP Try.prog 200 args r :=
  callP_of tok mixed Try.func200 (by kernel_rfl) (by kernel_rfl) (by kernel_rfl : Try.f200.ntmps = 15) (by kernel_rfl : Try.f200.body.bind (strip 15 (fun _ => [])) = some A200) hn h
def A227 : ACode :=
  (.seq (.reg [] [⟨some 2, (.assign (.const (.bool false))), 4, none⟩])
    (.seq (.reg [] [⟨some 3, (.move (.tmp 0)), 3, none⟩,
      ⟨some 4, (.call ⟨(.value (.func 228)), #[(.tmp 3)], #[3]⟩), 4, none⟩,
      ⟨some 5, (.unOp .not 4 (.tmp 4)), 4, none⟩,
      ⟨some 2, (.assign (.tmp 5)), 4, none⟩])
    .ret))
theorem C227 {args : List AV} {r : AV} (hn : args.length ≤ 6) (h : vc Try.prog T [] A227 (Fin T [(.tmp 2)] r) ⟨envOf 0 args, []⟩) : CallP Try.prog 227 args r :=
  callP_of tok mixed Try.func227 (by kernel_rfl) (by kernel_rfl) (by kernel_rfl : Try.f227.ntmps = 6) (by kernel_rfl : Try.f227.body.bind (strip 6 (fun _ => [])) = some A227) hn h
def A194 : ACode :=
  (.seq (.reg [] [⟨some 2, (.assign (.const (.bool false))), 4, none⟩])
    (.seq (.reg [] [⟨some 3, (.move (.tmp 0)), 23, none⟩,
      ⟨some 4, (.call ⟨(.value (.func 132)), #[(.tmp 3), (.func 227)], #[23, 139]⟩), 4, none⟩,
      ⟨some 5, (.unOp .not 4 (.tmp 4)), 4, none⟩,
      ⟨some 2, (.assign (.tmp 5)), 4, none⟩])
    .ret))
theorem C194 {args : List AV} {r : AV} (hn : args.length ≤ 6) (h : vc Try.prog T [] A194 (Fin T [(.tmp 2)] r) ⟨envOf 0 args, []⟩) : CallP Try.prog 194 args r :=
  callP_of tok mixed Try.func194 (by kernel_rfl) (by kernel_rfl) (by kernel_rfl : Try.f194.ntmps = 6) (by kernel_rfl : Try.f194.body.bind (strip 6 (fun _ => [])) = some A194) hn h
def A192 : ACode :=
  (.seq (.reg [] [⟨some 4, (.assign (.const (.int .i64 0))), 3, none⟩])
    (.seq (.seq (.reg [] [⟨some 6, (.move (.tmp 0)), 23, none⟩,
      ⟨some 7, (.call ⟨(.builtin .len), #[(.tmp 6)], #[23]⟩), 3, none⟩,
      ⟨some 8, (.move (.const (.int .i64 0))), 3, none⟩])
    (.block 0 (.loop (.seq (.reg [] [⟨some 9, (.binOp .lss 3 (.tmp 8) (.tmp 7) 3), 0, none⟩])
    (.seq (.cond (.tmp 9)
    .skip
    (.exit 0))
    (.seq (.block 1 (.seq (.reg [] [⟨some 10, (.move (.tmp 8)), 3, none⟩,
      ⟨some 5, (.assign (.tmp 10)), 3, none⟩])
    (.seq (.reg [] [⟨some 11, (.move (.tmp 1)), 139, none⟩,
      ⟨some 12, (.move (.tmp 0)), 23, none⟩,
      ⟨some 13, (.move (.tmp 5)), 3, none⟩,
      ⟨some 14, (.indexAddr 23 (.tmp 12) (.tmp 13)), 0, none⟩,
      ⟨some 15, (.load 3 (.tmp 14)), 3, none⟩,
      ⟨some 16, (.call ⟨(.value (.tmp 11)), #[(.tmp 15)], #[3]⟩), 4, none⟩])
    (.cond (.tmp 16)
    (.seq (.reg [] [⟨some 17, (.move (.tmp 5)), 3, none⟩,
      ⟨some 4, (.assign (.tmp 17)), 3, none⟩])
    .ret)
    .skip))))
    (.reg [] [⟨some 18, (.binOp .add 3 (.tmp 8) (.const (.int .i64 1)) 3), 3, none⟩,
      ⟨some 8, (.move (.tmp 18)), 3, none⟩])))))))
    (.seq (.reg [] [⟨some 4, (.assign (.const (.int .i64 (-1)))), 3, none⟩])
    .ret)))
theorem C192 {args : List AV} {r : AV} (hn : args.length ≤ 19) (h : vc Try.prog T [] A192 (Fin T [(.tmp 4)] r) ⟨envOf 0 args, []⟩) : CallP Try.prog 192 args r :=
  callP_of tok mixed Try.func192 (by kernel_rfl) (by kernel_rfl) (by kernel_rfl : Try.f192.ntmps = 19) (by kernel_rfl : Try.f192.body.bind (strip 19 (fun _ => [])) = some A192) hn h
def A132 : ACode :=
  (.seq (.reg [] [⟨some 4, (.assign (.const (.bool false))), 4, none⟩])
    (.seq (.reg [] [⟨some 5, (.move (.tmp 0)), 23, none⟩,
      ⟨some 6, (.move (.tmp 1)), 139, none⟩,
      ⟨some 7, (.call ⟨(.value (.func 192)), #[(.tmp 5), (.tmp 6)], #[23, 139]⟩), 3, none⟩,
      ⟨some 8, (.binOp .geq 3 (.tmp 7) (.const (.int .i64 0)) 3), 4, none⟩,
      ⟨some 4, (.assign (.tmp 8)), 4, none⟩])
    .ret))
theorem C132 {args : List AV} {r : AV} (hn : args.length ≤ 9) (h : vc Try.prog T [] A132 (Fin T [(.tmp 4)] r) ⟨envOf 0 args, []⟩) : CallP Try.prog 132 args r :=
  callP_of tok mixed Try.func132 (by kernel_rfl) (by kernel_rfl) (by kernel_rfl : Try.f132.ntmps = 9) (by kernel_rfl : Try.f132.body.bind (strip 9 (fun _ => [])) = some A132) hn h
def A193 : ACode :=
  (.seq (.reg [] [⟨some 4, (.assign (.const (.int .i64 0))), 3, none⟩])
    (.seq (.seq (.reg [] [⟨some 6, (.move (.tmp 0)), 23, none⟩,
      ⟨some 7, (.call ⟨(.builtin .len), #[(.tmp 6)], #[23]⟩), 3, none⟩,
      ⟨some 8, (.move (.const (.int .i64 0))), 3, none⟩])
    (.block 0 (.loop (.seq (.reg [] [⟨some 9, (.binOp .lss 3 (.tmp 8) (.tmp 7) 3), 0, none⟩])
    (.seq (.cond (.tmp 9)
    .skip
    (.exit 0))
    (.seq (.block 1 (.seq (.reg [] [⟨some 10, (.move (.tmp 8)), 3, none⟩,
      ⟨some 5, (.assign (.tmp 10)), 3, none⟩])
    (.seq (.reg [] [⟨some 11, (.move (.tmp 1)), 3, none⟩,
      ⟨some 12, (.move (.tmp 0)), 23, none⟩,
      ⟨some 13, (.move (.tmp 5)), 3, none⟩,
      ⟨some 14, (.indexAddr 23 (.tmp 12) (.tmp 13)), 0, none⟩,
      ⟨some 15, (.load 3 (.tmp 14)), 3, none⟩,
      ⟨some 16, (.binOp .eql 3 (.tmp 11) (.tmp 15) 3), 4, none⟩])
    (.cond (.tmp 16)
    (.seq (.reg [] [⟨some 17, (.move (.tmp 5)), 3, none⟩,
      ⟨some 4, (.assign (.tmp 17)), 3, none⟩])
    .ret)
    .skip))))
    (.reg [] [⟨some 18, (.binOp .add 3 (.tmp 8) (.const (.int .i64 1)) 3), 3, none⟩,
      ⟨some 8, (.move (.tmp 18)), 3, none⟩])))))))
    (.seq (.reg [] [⟨some 4, (.assign (.const (.int .i64 (-1)))), 3, none⟩])
    .ret)))
theorem C193 {args : List AV} {r : AV} (hn : args.length ≤ 19) (h : vc Try.prog T [] A193 (Fin T [(.tmp 4)] r) ⟨envOf 0 args, []⟩) : CallP Try.prog 193 args r :=
  callP_of tok mixed Try.func193 (by kernel_rfl) (by kernel_rfl) (by kernel_rfl : Try.f193.ntmps = 19) (by kernel_rfl : Try.f193.body.bind (strip 19 (fun _ => [])) = some A193) hn h
def A134 : ACode :=
  (.seq (.reg [] [⟨some 4, (.assign (.const (.bool false))), 4, none⟩])
    (.seq (.reg [] [⟨some 5, (.move (.tmp 0)), 23, none⟩,
      ⟨some 6, (.move (.tmp 1)), 3, none⟩,
      ⟨some 7, (.call ⟨(.value (.func 193)), #[(.tmp 5), (.tmp 6)], #[23, 3]⟩), 3, none⟩,
      ⟨some 8, (.binOp .geq 3 (.tmp 7) (.const (.int .i64 0)) 3), 4, none⟩,
      ⟨some 4, (.assign (.tmp 8)), 4, none⟩])
    .ret))
theorem C134 {args : List AV} {r : AV} (hn : args.length ≤ 9) (h : vc Try.prog T [] A134 (Fin T [(.tmp 4)] r) ⟨envOf 0 args, []⟩) : CallP Try.prog 134 args r :=
  callP_of tok mixed Try.func134 (by kernel_rfl) (by kernel_rfl) (by kernel_rfl : Try.f134.ntmps = 9) (by kernel_rfl : Try.f134.body.bind (strip 9 (fun _ => [])) = some A134) hn h
def A137 : ACode :=
  (.seq (.reg [] [⟨some 4, (.assign (.const (.bool false))), 4, none⟩])
    (.seq (.seq (.reg [] [⟨some 6, (.move (.tmp 0)), 23, none⟩,
      ⟨some 7, (.call ⟨(.builtin .len), #[(.tmp 6)], #[23]⟩), 3, none⟩,
      ⟨some 8, (.move (.tmp 1)), 23, none⟩,
      ⟨some 9, (.call ⟨(.builtin .len), #[(.tmp 8)], #[23]⟩), 3, none⟩,
      ⟨some 10, (.binOp .neq 3 (.tmp 7) (.tmp 9) 3), 4, none⟩])
    (.cond (.tmp 10)
    (.seq (.reg [] [⟨some 4, (.assign (.const (.bool false))), 4, none⟩])
    .ret)
    .skip))
    (.seq (.seq (.reg [] [⟨some 11, (.move (.tmp 0)), 23, none⟩,
      ⟨some 12, (.call ⟨(.builtin .len), #[(.tmp 11)], #[23]⟩), 3, none⟩,
      ⟨some 13, (.move (.const (.int .i64 0))), 3, none⟩])
    (.block 0 (.loop (.seq (.reg [] [⟨some 14, (.binOp .lss 3 (.tmp 13) (.tmp 12) 3), 0, none⟩])
    (.seq (.cond (.tmp 14)
    .skip
    (.exit 0))
    (.seq (.block 1 (.seq (.reg [] [⟨some 15, (.move (.tmp 13)), 3, none⟩,
      ⟨some 5, (.assign (.tmp 15)), 3, none⟩])
    (.seq (.draw [] [⟨some 16, (.move (.tmp 0)), 23, none⟩,
      ⟨some 17, (.move (.tmp 5)), 3, none⟩,
      ⟨some 18, (.indexAddr 23 (.tmp 16) (.tmp 17)), 0, none⟩,
      ⟨some 19, (.load 3 (.tmp 18)), 3, none⟩,
      ⟨some 20, (.move (.tmp 1)), 23, none⟩,
      ⟨some 21, (.move (.tmp 5)), 3, none⟩,
      ⟨some 22, (.indexAddr 23 (.tmp 20) (.tmp 21)), 0, none⟩,
      ⟨some 23, (.load 3 (.tmp 22)), 3, none⟩,
      ⟨some 24, (.binOp .neq 3 (.tmp 19) (.tmp 23) 3), 4, none⟩] [(0, 1), (0, 4), (1, 4), (2, 4), (3, 4), (0, 5), (1, 5), (2, 5), (3, 5), (4, 5), (0, 6), (1, 6), (2, 6), (3, 6), (0, 7), (1, 7), (2, 7), (3, 7)])
    (.cond (.tmp 24)
    (.seq (.reg [] [⟨some 4, (.assign (.const (.bool false))), 4, none⟩])
    .ret)
    .skip))))
    (.reg [] [⟨some 25, (.binOp .add 3 (.tmp 13) (.const (.int .i64 1)) 3), 3, none⟩,
      ⟨some 13, (.move (.tmp 25)), 3, none⟩])))))))
    (.seq (.reg [] [⟨some 4, (.assign (.const (.bool true))), 4, none⟩])
    .ret))))
theorem C137 {args : List AV} {r : AV} (hn : args.length ≤ 26) (h : vc Try.prog T [] A137 (Fin T [(.tmp 4)] r) ⟨envOf 0 args, []⟩) : CallP Try.prog 137 args r :=
  callP_of tok mixed Try.func137 (by kernel_rfl) (by kernel_rfl) (by kernel_rfl : Try.f137.ntmps = 26) (by kernel_rfl : Try.f137.body.bind (strip 26 (fun _ => [])) = some A137) hn h
def A154 : ACode :=
  (.seq (.reg [] [⟨some 2, (.assign (.const (.slice none 0 0))), 23, none⟩,
      ⟨some 3, (.assign (.const (.int .i64 0))), 29, none⟩])
    (.seq (.seq (.reg [] [⟨some 4, (.move (.tmp 0)), 23, none⟩,
      ⟨some 5, (.call ⟨(.builtin .len), #[(.tmp 4)], #[23]⟩), 3, none⟩,
      ⟨some 6, (.binOp .gtr 3 (.tmp 5) (.const (.int .i64 8)) 3), 4, none⟩])
    (.cond (.tmp 6)
    (.seq (.reg [] [⟨some 2, (.assign (.const (.slice none 0 0))), 23, none⟩,
      ⟨some 3, (.assign (.const (.int .i64 3))), 29, none⟩])
    .ret)
    .skip))
    (.seq (.reg [] [⟨some 7, (.move (.tmp 0)), 23, none⟩,
      ⟨some 2, (.assign (.tmp 7)), 23, none⟩,
      ⟨some 3, (.assign (.const (.int .i64 0))), 29, none⟩])
    .ret)))
theorem C154 {args : List AV} {r : AV} (hn : args.length ≤ 8) (h : vc Try.prog T [] A154 (Fin T [(.tmp 2), (.tmp 3)] r) ⟨envOf 0 args, []⟩) : CallP Try.prog 154 args r :=
  callP_of tok mixed Try.func154 (by kernel_rfl) (by kernel_rfl) (by kernel_rfl : Try.f154.ntmps = 8) (by kernel_rfl : Try.f154.body.bind (strip 8 (fun _ => [])) = some A154) hn h

end Go.Proofs.Ytaooenmkofjafaa
end

section
/- Contracts: leaves of package rule. -/
namespace Go.Proofs.Ytaooenmkofjafaa
open Go.Abs Go
set_option maxRecDepth 20000
set_option maxHeartbeats 2000000
attribute [local irreducible] PreK CondK CallK CallG CallX LoopK

theorem within_c (n lo hi : Int) : CallP Try.prog 229 [iv n, iv lo, iv hi] (bv (decide (lo ≤ n) && decide (n ≤ hi))) := by
  refine C229 (by simp) ?_
  simp [A229]
def isSound (n : Int) : Bool := decide (0 ≤ n) && decide (n ≤ 5)
theorem isSound_c (n : Int) : CallP Try.prog 228 [iv n] (bv (isSound n)) := by
  refine C228 (by simp) ?_
  simp [A228]
  refine CallX.pure (by simpa using within_c n 0 5) (by simp) (by simp) ?_
  simp [isSound]
def isNeighbor (n : Int) : Bool := decide (n = -1) || isSound n
theorem isNeighbor_c (n : Int) : CallP Try.prog 202 [iv n] (bv (isNeighbor n)) := by
  refine C202 (by simp) ?_
  simp [A202]
  refine CallG.intro (fun _ => by simpa using isSound_c n) (by simp) (by simp) ?_
  simp [isNeighbor]
theorem notSound_c (n : Int) : CallP Try.prog 227 [iv n] (bv (!isSound n)) := by
  refine C227 (by simp) ?_
  simp [A227]
  refine CallX.pure (by simpa using isSound_c n) (by simp) (by simp) ?_
  simp
def long (r : Rule) : Int := if r.frm = -1 then 0 else 1
theorem long_c (r : Rule) : CallP Try.prog 199 [ruleV r] (iv (long r)) := by
  refine C199 (by simp) ?_
  simp [A199]
  refine CondK.intro (fun h => ?_) (fun h => ?_)
  · simp at h
    simp [long, h]
  · simp at h
    simp [long, h]
def atW (w : List Int) (i : Int) : Int := if 0 ≤ i ∧ i < w.length then el w i.toNat else -1
theorem at_c (w : List Int) (i : Int) (hw : w.length ≤ 1000) : CallP Try.prog 200 [ints w, iv i] (iv (atW w i)) := by
  refine C200 (by simp) ?_
  simp [A200]
  refine PreK.intro (by omega) fun _ => ?_
  simp
  refine CallX.pure (by simpa using within_c i 0 (w.length - 1)) (by simp) (by simp) ?_
  simp
  refine CondK.intro (fun h => ?_) (fun h => ?_)
  · simp at h
    have : ¬ (0 ≤ i ∧ i < w.length) := by omega
    simp [atW, this]
  · simp at h
    have h2 : 0 ≤ i ∧ i < w.length := by omega
    simp [h2, show i.toNat < w.length by omega]
    simp [atW, h2]
end Go.Proofs.Ytaooenmkofjafaa
end

section
/- Contracts: the library's searches in []int. -/
namespace Go.Proofs.Ytaooenmkofjafaa
open Go.Abs Go
set_option maxRecDepth 20000
set_option maxHeartbeats 2000000
attribute [local irreducible] PreK CondK CallK CallG CallX LoopK

def idxF (p : Int → Bool) : Nat → List Int → Int
  | _, [] => -1
  | k, x :: r => if p x then k else idxF p (k + 1) r
theorem idxF_any (p : Int → Bool) : ∀ (l : List Int) (k : Nat), decide (0 ≤ idxF p k l) = l.any p
  | [], k => by simp [idxF]
  | x :: r, k => by
    by_cases h : p x = true
    · simp [idxF, h]
    · simp [idxF, h, idxF_any p r (k + 1)]

theorem indexFunc_c (l : List Int) (hl : l.length ≤ big) (f : FuncId) (cap : List AV) (p : Int → Bool) (hp : ∀ x, CallP Try.prog f (iv x :: cap) (bv (p x))) (h1 : ∀ m, snapL m cap = cap) (h2 : AV.refsL cap = []) (h3 : ∀ m, snapOKL m cap) :
    CallP Try.prog 192 [ints l, .fn f [] cap] (iv (idxF p 0 l)) := by
  refine C192 (by simp) ?_
  generalize hR : idxF p 0 l = R
  simp [A192]
  refine LoopK.by (fun i : Nat => ⟨[(8, iv i), (7, iv l.length), (0, ints l), (1, .fn f [] cap)], []⟩) (fun i => l.length - i) (fun i => i ≤ l.length ∧ idxF p i (l.drop i) = R) 0 (by simpa using hR) (by simp [h2]) ?_
  intro i Q' ⟨hi, hc⟩ hq he hr
  simp
  refine CondK.intro (fun h => ?_) (fun h => ?_)
  · simp at h
    rw [drop_cons l i h] at hc
    simp [h]
    refine CallX.pure (by simpa [h1] using hp (el l i)) (by simp [h3]) (by simp) ?_
    simp
    refine CondK.intro (fun h4 => ?_) (fun h4 => ?_)
    · simp [idxF, h4] at hc
      simp
      apply hr
      simp [hc]
    · simp [idxF, h4] at hc
      simp
      refine PreK.intro (by simp only [big] at hl; omega) fun _ => ?_
      simp
      exact hq (i + 1) _ ⟨by omega, hc⟩ (by omega) (by simp [h2])
  · simp at h
    rw [List.drop_eq_nil_of_le (by omega)] at hc
    simp [idxF] at hc
    simp
    apply he
    simp [hc]

theorem containsFunc_c (l : List Int) (hl : l.length ≤ big) (f : FuncId) (cap : List AV) (p : Int → Bool) (hp : ∀ x, CallP Try.prog f (iv x :: cap) (bv (p x))) (h1 : ∀ m, snapL m cap = cap) (h2 : AV.refsL cap = []) (h3 : ∀ m, snapOKL m cap) :
    CallP Try.prog 132 [ints l, .fn f [] cap] (bv (l.any p)) := by
  refine C132 (by simp) ?_
  rw [← idxF_any p l 0]
  simp [A132]
  refine CallX.pure (by simpa [h1] using indexFunc_c l hl f cap p hp h1 h2 h3) (by simp [h3]) (by simp) ?_
  simp

theorem index_c (l : List Int) (n : Int) (hl : l.length ≤ big) : CallP Try.prog 193 [ints l, iv n] (iv (idxF (fun x => decide (n = x)) 0 l)) := by
  refine C193 (by simp) ?_
  generalize hR : idxF (fun x => decide (n = x)) 0 l = R
  simp [A193]
  refine LoopK.by (fun i : Nat => ⟨[(8, iv i), (7, iv l.length), (0, ints l), (1, iv n)], []⟩) (fun i => l.length - i) (fun i => i ≤ l.length ∧ idxF (fun x => decide (n = x)) i (l.drop i) = R) 0 (by simpa using hR) (by simp) ?_
  intro i Q' ⟨hi, hc⟩ hq he hr
  simp
  refine CondK.intro (fun h => ?_) (fun h => ?_)
  · simp at h
    rw [drop_cons l i h] at hc
    simp [h]
    refine CondK.intro (fun h4 => ?_) (fun h4 => ?_)
    · simp at h4
      simp [idxF, h4] at hc
      simp
      apply hr
      simp [hc]
    · simp at h4
      simp [idxF, h4] at hc
      simp
      refine PreK.intro (by simp only [big] at hl; omega) fun _ => ?_
      simp
      exact hq (i + 1) _ ⟨by omega, hc⟩ (by omega) (by simp)
  · simp at h
    rw [List.drop_eq_nil_of_le (by omega)] at hc
    simp [idxF] at hc
    simp
    apply he
    simp [hc]

theorem contains_c (l : List Int) (n : Int) (hl : l.length ≤ big) : CallP Try.prog 134 [ints l, iv n] (bv (l.any fun x => decide (n = x))) := by
  refine C134 (by simp) ?_
  rw [← idxF_any _ l 0]
  simp [A134]
  refine CallX.pure (by simpa using index_c l n hl) (by simp) (by simp) ?_
  simp

theorem areSounds_c (l : List Int) (hl : l.length ≤ big) : CallP Try.prog 194 [ints l] (bv (!l.any fun x => !isSound x)) := by
  refine C194 (by simp) ?_
  simp [A194]
  refine CallX.pure (by simpa using containsFunc_c l hl 227 [] (fun x => !isSound x) notSound_c (by simp) (by simp) (by simp)) (by simp) (by simp) ?_
  simp
end Go.Proofs.Ytaooenmkofjafaa
end

section
/- Functions of the cut as the value layer reads them. (written by gen.py) -/
set_option maxRecDepth 20000
namespace Go.Proofs.Ytaooenmkofjafaa
open Go.Abs Go

def A135 : ACode :=
  (.seq (.reg [] [⟨some 2, (.assign (.const (.int .i64 0))), 29, none⟩])
    (.seq (.seq (.reg [] [⟨some 3, (.move (.tmp 0)), 23, none⟩,
      ⟨some 4, (.call ⟨(.builtin .len), #[(.tmp 3)], #[23]⟩), 3, none⟩,
      ⟨some 5, (.binOp .gtr 3 (.tmp 4) (.const (.int .i64 8)) 3), 4, none⟩])
    (.cond (.tmp 5)
    (.seq (.reg [] [⟨some 2, (.assign (.const (.int .i64 3))), 29, none⟩])
    .ret)
    .skip))
    (.seq (.seq (.reg [] [⟨some 6, (.move (.tmp 0)), 23, none⟩,
      ⟨some 7, (.call ⟨(.value (.func 194)), #[(.tmp 6)], #[23]⟩), 4, none⟩,
      ⟨some 8, (.unOp .not 4 (.tmp 7)), 4, none⟩])
    (.cond (.tmp 8)
    (.seq (.reg [] [⟨some 2, (.assign (.const (.int .i64 1))), 29, none⟩])
    .ret)
    .skip))
    (.seq (.reg [] [⟨some 2, (.assign (.const (.int .i64 0))), 29, none⟩])
    .ret))))
theorem C135 {args : List AV} {r : AV} (hn : args.length ≤ 9) (h : vc Try.prog T [] A135 (Fin T [(.tmp 2)] r) ⟨envOf 0 args, []⟩) : CallP Try.prog 135 args r :=
  callP_of tok mixed Try.func135 (by kernel_rfl) (by kernel_rfl) (by kernel_rfl : Try.f135.ntmps = 9) (by kernel_rfl : Try.f135.body.bind (strip 9 (fun _ => [])) = some A135) hn h
def A203 : ACode :=
  (.seq (.reg [] [⟨some 2, (.assign (.const (.bool false))), 4, none⟩])
    (.seq (.seq (.reg [] [⟨some 5, (.move (.tmp 0)), 23, none⟩,
      ⟨some 6, (.call ⟨(.builtin .len), #[(.tmp 5)], #[23]⟩), 3, none⟩,
      ⟨some 7, (.move (.const (.int .i64 0))), 3, none⟩])
    (.block 0 (.loop (.seq (.reg [] [⟨some 8, (.binOp .lss 3 (.tmp 7) (.tmp 6) 3), 0, none⟩])
    (.seq (.cond (.tmp 8)
    .skip
    (.exit 0))
    (.seq (.block 1 (.seq (.reg [] [⟨some 9, (.move (.tmp 7)), 3, none⟩,
      ⟨some 10, (.indexAddr 23 (.tmp 5) (.tmp 7)), 0, none⟩,
      ⟨some 11, (.load 3 (.tmp 10)), 3, none⟩,
      ⟨some 3, (.assign (.tmp 9)), 3, none⟩,
      ⟨some 4, (.assign (.tmp 11)), 3, none⟩])
    (.seq (.reg [] [⟨some 12, (.move (.tmp 4)), 3, none⟩,
      ⟨some 13, (.call ⟨(.value (.func 202)), #[(.tmp 12)], #[3]⟩), 4, none⟩,
      ⟨some 14, (.unOp .not 4 (.tmp 13)), 4, none⟩,
      ⟨some 15, (.move (.tmp 14)), 4, none⟩,
      ⟨some 16, (.move (.tmp 3)), 3, some (15, false)⟩,
      ⟨some 17, (.binOp .gtr 3 (.tmp 16) (.const (.int .i64 0)) 3), 4, some (15, false)⟩,
      ⟨some 18, (.move (.tmp 17)), 4, some (15, false)⟩,
      ⟨some 19, (.move (.tmp 0)), 23, some (18, true)⟩,
      ⟨some 20, (.move (.tmp 3)), 3, some (18, true)⟩,
      ⟨some 21, (.binOp .sub 3 (.tmp 20) (.const (.int .i64 1)) 3), 3, some (18, true)⟩,
      ⟨some 22, (.indexAddr 23 (.tmp 19) (.tmp 21)), 0, some (18, true)⟩,
      ⟨some 23, (.load 3 (.tmp 22)), 3, some (18, true)⟩,
      ⟨some 24, (.move (.tmp 4)), 3, some (18, true)⟩,
      ⟨some 25, (.binOp .geq 3 (.tmp 23) (.tmp 24) 3), 4, some (18, true)⟩,
      ⟨some 26, (.pick (.tmp 18) (.tmp 25) (.const (.bool false))), 4, some (15, false)⟩,
      ⟨some 27, (.pick (.tmp 15) (.const (.bool true)) (.tmp 26)), 4, none⟩])
    (.cond (.tmp 27)
    (.seq (.reg [] [⟨some 2, (.assign (.const (.bool false))), 4, none⟩])
    .ret)
    .skip))))
    (.reg [] [⟨some 28, (.binOp .add 3 (.tmp 7) (.const (.int .i64 1)) 3), 3, none⟩,
      ⟨some 7, (.move (.tmp 28)), 3, none⟩])))))))
    (.seq (.reg [] [⟨some 2, (.assign (.const (.bool true))), 4, none⟩])
    .ret)))
theorem C203 {args : List AV} {r : AV} (hn : args.length ≤ 29) (h : vc Try.prog T [] A203 (Fin T [(.tmp 2)] r) ⟨envOf 0 args, []⟩) : CallP Try.prog 203 args r :=
  callP_of tok mixed Try.func203 (by kernel_rfl) (by kernel_rfl) (by kernel_rfl : Try.f203.ntmps = 29) (by kernel_rfl : Try.f203.body.bind (strip 29 (fun _ => [])) = some A203) hn h
def A150 : ACode :=
  (.seq (.reg [] [⟨some 1, (.box 72 (.tmp 0)), 0, none⟩,
      ⟨some 2, (.assign (.const (.int .i64 0))), 29, none⟩])
    (.seq (.block 0 (.seq (.reg [] [⟨some 4, (.fieldAddr 72 (.tmp 1) 0), 0, none⟩,
      ⟨some 5, (.load 3 (.tmp 4)), 3, none⟩,
      ⟨some 6, (.call ⟨(.value (.func 202)), #[(.tmp 5)], #[3]⟩), 4, none⟩,
      ⟨some 7, (.unOp .not 4 (.tmp 6)), 4, none⟩,
      ⟨some 3, (.assign (.tmp 7)), 4, none⟩])
    (.cond (.tmp 3)
    (.seq (.reg [] [⟨some 2, (.assign (.const (.int .i64 1))), 29, none⟩])
    .ret)
    (.seq (.reg [] [⟨some 9, (.fieldAddr 72 (.tmp 1) 1), 0, none⟩,
      ⟨some 10, (.load 23 (.tmp 9)), 23, none⟩,
      ⟨some 11, (.call ⟨(.builtin .len), #[(.tmp 10)], #[23]⟩), 3, none⟩,
      ⟨some 12, (.binOp .gtr 3 (.tmp 11) (.const (.int .i64 2)) 3), 4, none⟩,
      ⟨some 8, (.assign (.tmp 12)), 4, none⟩])
    (.cond (.tmp 8)
    (.seq (.reg [] [⟨some 2, (.assign (.const (.int .i64 3))), 29, none⟩])
    .ret)
    (.seq (.reg [] [⟨some 14, (.fieldAddr 72 (.tmp 1) 1), 0, none⟩,
      ⟨some 15, (.load 23 (.tmp 14)), 23, none⟩,
      ⟨some 16, (.call ⟨(.value (.func 194)), #[(.tmp 15)], #[23]⟩), 4, none⟩,
      ⟨some 17, (.unOp .not 4 (.tmp 16)), 4, none⟩,
      ⟨some 18, (.move (.tmp 17)), 4, none⟩,
      ⟨some 19, (.fieldAddr 72 (.tmp 1) 2), 0, some (18, false)⟩,
      ⟨some 20, (.load 23 (.tmp 19)), 23, some (18, false)⟩,
      ⟨some 21, (.call ⟨(.value (.func 203)), #[(.tmp 20)], #[23]⟩), 4, some (18, false)⟩,
      ⟨some 22, (.unOp .not 4 (.tmp 21)), 4, some (18, false)⟩,
      ⟨some 23, (.pick (.tmp 18) (.const (.bool true)) (.tmp 22)), 4, none⟩,
      ⟨some 24, (.move (.tmp 23)), 4, none⟩,
      ⟨some 25, (.fieldAddr 72 (.tmp 1) 3), 0, some (24, false)⟩,
      ⟨some 26, (.load 23 (.tmp 25)), 23, some (24, false)⟩,
      ⟨some 27, (.call ⟨(.value (.func 203)), #[(.tmp 26)], #[23]⟩), 4, some (24, false)⟩,
      ⟨some 28, (.unOp .not 4 (.tmp 27)), 4, some (24, false)⟩,
      ⟨some 29, (.pick (.tmp 24) (.const (.bool true)) (.tmp 28)), 4, none⟩,
      ⟨some 13, (.assign (.tmp 29)), 4, none⟩])
    (.cond (.tmp 13)
    (.seq (.reg [] [⟨some 2, (.assign (.const (.int .i64 1))), 29, none⟩])
    .ret)
    (.seq (.seq (.reg [] [⟨some 31, (.fieldAddr 72 (.tmp 1) 0), 0, none⟩,
      ⟨some 32, (.load 3 (.tmp 31)), 3, none⟩,
      ⟨some 33, (.binOp .eql 3 (.tmp 32) (.const (.int .i64 (-1))) 3), 4, none⟩,
      ⟨some 34, (.move (.tmp 33)), 4, none⟩,
      ⟨some 35, (.fieldAddr 72 (.tmp 1) 1), 0, some (34, true)⟩,
      ⟨some 36, (.load 23 (.tmp 35)), 23, some (34, true)⟩,
      ⟨some 37, (.call ⟨(.builtin .len), #[(.tmp 36)], #[23]⟩), 3, some (34, true)⟩,
      ⟨some 38, (.binOp .eql 3 (.tmp 37) (.const (.int .i64 0)) 3), 4, some (34, true)⟩,
      ⟨some 39, (.pick (.tmp 34) (.tmp 38) (.const (.bool false))), 4, none⟩,
      ⟨some 30, (.assign (.tmp 39)), 4, none⟩])
    (.cond (.tmp 30)
    .skip
    (.reg [] [⟨some 40, (.fieldAddr 72 (.tmp 1) 1), 0, none⟩,
      ⟨some 41, (.load 23 (.tmp 40)), 23, none⟩,
      ⟨some 42, (.fieldAddr 72 (.tmp 1) 0), 0, none⟩,
      ⟨some 43, (.load 3 (.tmp 42)), 3, none⟩,
      ⟨some 44, (.buildSlice 23 1 #[(0, (.tmp 43))]), 23, none⟩,
      ⟨some 45, (.call ⟨(.value (.func 137)), #[(.tmp 41), (.tmp 44)], #[23, 23]⟩), 4, none⟩,
      ⟨some 30, (.assign (.tmp 45)), 4, none⟩])))
    (.cond (.tmp 30)
    (.seq (.reg [] [⟨some 2, (.assign (.const (.int .i64 6))), 29, none⟩])
    .ret)
    .skip)))))))))
    (.seq (.reg [] [⟨some 2, (.assign (.const (.int .i64 0))), 29, none⟩])
    .ret)))
theorem C150 {args : List AV} {r : AV} (hn : args.length ≤ 46) (h : vc Try.prog T [] A150 (Fin T [(.tmp 2)] r) ⟨envOf 0 args, []⟩) : CallP Try.prog 150 args r :=
  callP_of tok mixed Try.func150 (by kernel_rfl) (by kernel_rfl) (by kernel_rfl : Try.f150.ntmps = 46) (by kernel_rfl : Try.f150.body.bind (strip 46 (fun _ => [])) = some A150) hn h
def A144 : ACode :=
  (.seq (.reg [] [⟨some 2, (.box 72 (.tmp 0)), 0, none⟩,
      ⟨some 4, (.assign (.const (.int .i64 0))), 29, none⟩])
    (.seq (.seq (.reg [] [⟨some 6, (.load 72 (.tmp 2)), 72, none⟩,
      ⟨some 7, (.call ⟨(.value (.func 150)), #[(.tmp 6)], #[72]⟩), 29, none⟩,
      ⟨some 5, (.assign (.tmp 7)), 29, none⟩])
    (.seq (.reg [] [⟨some 8, (.move (.tmp 5)), 29, none⟩,
      ⟨some 9, (.binOp .neq 29 (.tmp 8) (.const (.int .i64 0)) 29), 4, none⟩])
    (.cond (.tmp 9)
    (.seq (.reg [] [⟨some 10, (.move (.tmp 5)), 29, none⟩,
      ⟨some 4, (.assign (.tmp 10)), 29, none⟩])
    .ret)
    .skip)))
    (.seq (.reg [] [⟨some 11, (.move (.tmp 1)), 23, none⟩,
      ⟨some 12, (.call ⟨(.value (.func 135)), #[(.tmp 11)], #[23]⟩), 29, none⟩,
      ⟨some 4, (.assign (.tmp 12)), 29, none⟩])
    .ret)))
theorem C144 {args : List AV} {r : AV} (hn : args.length ≤ 13) (h : vc Try.prog T [] A144 (Fin T [(.tmp 4)] r) ⟨envOf 0 args, []⟩) : CallP Try.prog 144 args r :=
  callP_of tok mixed Try.func144 (by kernel_rfl) (by kernel_rfl) (by kernel_rfl : Try.f144.ntmps = 13) (by kernel_rfl : Try.f144.body.bind (strip 13 (fun _ => [])) = some A144) hn h
def A149 : ACode :=
  (.seq (.reg [] [⟨some 2, (.alloc 150), 0, none⟩])
    (.seq (.reg [] [⟨some 3, (.alloc 150), 0, none⟩])
    (.seq (.seq (.reg [] [⟨some 5, (.move (.const (.int .i64 0))), 3, none⟩])
    (.block 0 (.loop (.seq (.reg [] [⟨some 6, (.binOp .lss 3 (.tmp 5) (.const (.int .i64 7)) 3), 0, none⟩])
    (.seq (.cond (.tmp 6)
    .skip
    (.exit 0))
    (.seq (.block 1 (.seq (.reg [] [⟨some 7, (.move (.tmp 5)), 3, none⟩,
      ⟨some 4, (.assign (.tmp 7)), 3, none⟩])
    (.reg [] [⟨some 8, (.move (.tmp 4)), 3, none⟩,
      ⟨some 9, (.move (.tmp 0)), 23, none⟩,
      ⟨some 10, (.call ⟨(.builtin .len), #[(.tmp 9)], #[23]⟩), 3, none⟩,
      ⟨some 11, (.binOp .eql 3 (.tmp 10) (.const (.int .i64 0)) 3), 4, none⟩,
      ⟨some 12, (.move (.tmp 11)), 4, none⟩,
      ⟨some 13, (.move (.tmp 0)), 23, some (12, false)⟩,
      ⟨some 14, (.move (.tmp 4)), 3, some (12, false)⟩,
      ⟨some 15, (.binOp .sub 3 (.tmp 14) (.const (.int .i64 1)) 3), 3, some (12, false)⟩,
      ⟨some 16, (.call ⟨(.value (.func 134)), #[(.tmp 13), (.tmp 15)], #[23, 3]⟩), 4, some (12, false)⟩,
      ⟨some 17, (.pick (.tmp 12) (.const (.bool true)) (.tmp 16)), 4, none⟩,
      ⟨some 18, (.indexAddr 150 (.tmp 3) (.tmp 8)), 0, none⟩,
      ⟨none, (.store 4 (.tmp 18) (.tmp 17)), 0, none⟩])))
    (.reg [] [⟨some 19, (.binOp .add 3 (.tmp 5) (.const (.int .i64 1)) 3), 3, none⟩,
      ⟨some 5, (.move (.tmp 19)), 3, none⟩])))))))
    (.seq (.reg [] [⟨some 20, (.load 150 (.tmp 3)), 150, none⟩,
      ⟨none, (.store 150 (.tmp 2) (.tmp 20)), 0, none⟩])
    .ret))))
theorem C149 {args : List AV} {r : AV} (hn : args.length ≤ 21) (h : vc Try.prog T [] A149 (Fin T [(.cell 2 150)] r) ⟨envOf 0 args, []⟩) : CallP Try.prog 149 args r :=
  callP_of tok mixed Try.func149 (by kernel_rfl) (by kernel_rfl) (by kernel_rfl : Try.f149.ntmps = 21) (by kernel_rfl : Try.f149.body.bind (strip 21 (fun _ => [])) = some A149) hn h
def A201 : ACode :=
  (.seq (.reg [] [⟨some 2, (.box 150 (.tmp 0)), 0, none⟩,
      ⟨some 3, (.box 150 (.tmp 1)), 0, none⟩,
      ⟨some 4, (.alloc 150), 0, none⟩])
    (.seq (.seq (.reg [] [⟨some 6, (.move (.const (.int .i64 0))), 3, none⟩])
    (.block 0 (.loop (.seq (.reg [] [⟨some 7, (.binOp .lss 3 (.tmp 6) (.const (.int .i64 7)) 3), 0, none⟩])
    (.seq (.cond (.tmp 7)
    .skip
    (.exit 0))
    (.seq (.block 1 (.seq (.reg [] [⟨some 8, (.move (.tmp 6)), 3, none⟩,
      ⟨some 5, (.assign (.tmp 8)), 3, none⟩])
    (.reg [] [⟨some 9, (.move (.tmp 5)), 3, none⟩,
      ⟨some 10, (.move (.tmp 5)), 3, none⟩,
      ⟨some 11, (.indexAddr 150 (.tmp 2) (.tmp 10)), 0, none⟩,
      ⟨some 12, (.load 4 (.tmp 11)), 4, none⟩,
      ⟨some 13, (.move (.tmp 12)), 4, none⟩,
      ⟨some 14, (.move (.tmp 5)), 3, some (13, true)⟩,
      ⟨some 15, (.indexAddr 150 (.tmp 3) (.tmp 14)), 0, some (13, true)⟩,
      ⟨some 16, (.load 4 (.tmp 15)), 4, some (13, true)⟩,
      ⟨some 17, (.pick (.tmp 13) (.tmp 16) (.const (.bool false))), 4, none⟩,
      ⟨some 18, (.indexAddr 150 (.tmp 2) (.tmp 9)), 0, none⟩,
      ⟨none, (.store 4 (.tmp 18) (.tmp 17)), 0, none⟩])))
    (.reg [] [⟨some 19, (.binOp .add 3 (.tmp 6) (.const (.int .i64 1)) 3), 3, none⟩,
      ⟨some 6, (.move (.tmp 19)), 3, none⟩])))))))
    (.seq (.reg [] [⟨some 20, (.load 150 (.tmp 2)), 150, none⟩,
      ⟨none, (.store 150 (.tmp 4) (.tmp 20)), 0, none⟩])
    .ret)))
theorem C201 {args : List AV} {r : AV} (hn : args.length ≤ 21) (h : vc Try.prog T [] A201 (Fin T [(.cell 4 150)] r) ⟨envOf 0 args, []⟩) : CallP Try.prog 201 args r :=
  callP_of tok mixed Try.func201 (by kernel_rfl) (by kernel_rfl) (by kernel_rfl : Try.f201.ntmps = 21) (by kernel_rfl : Try.f201.body.bind (strip 21 (fun _ => [])) = some A201) hn h
def A148 : ACode :=
  (.seq (.reg [] [⟨some 2, (.box 72 (.tmp 0)), 0, none⟩,
      ⟨some 3, (.box 72 (.tmp 1)), 0, none⟩,
      ⟨some 4, (.alloc 150), 0, none⟩,
      ⟨some 5, (.alloc 150), 0, none⟩])
    (.seq (.draw [] [⟨some 6, (.fieldAddr 72 (.tmp 2) 2), 0, none⟩,
      ⟨some 7, (.load 23 (.tmp 6)), 23, none⟩,
      ⟨some 8, (.call ⟨(.value (.func 149)), #[(.tmp 7)], #[23]⟩), 150, none⟩,
      ⟨some 9, (.fieldAddr 72 (.tmp 3) 2), 0, none⟩,
      ⟨some 10, (.load 23 (.tmp 9)), 23, none⟩,
      ⟨some 11, (.call ⟨(.value (.func 149)), #[(.tmp 10)], #[23]⟩), 150, none⟩,
      ⟨some 12, (.call ⟨(.value (.func 201)), #[(.tmp 8), (.tmp 11)], #[150, 150]⟩), 150, none⟩,
      ⟨some 13, (.fieldAddr 72 (.tmp 2) 3), 0, none⟩,
      ⟨some 14, (.load 23 (.tmp 13)), 23, none⟩,
      ⟨some 15, (.call ⟨(.value (.func 149)), #[(.tmp 14)], #[23]⟩), 150, none⟩,
      ⟨some 16, (.fieldAddr 72 (.tmp 3) 3), 0, none⟩,
      ⟨some 17, (.load 23 (.tmp 16)), 23, none⟩,
      ⟨some 18, (.call ⟨(.value (.func 149)), #[(.tmp 17)], #[23]⟩), 150, none⟩,
      ⟨some 19, (.call ⟨(.value (.func 201)), #[(.tmp 15), (.tmp 18)], #[150, 150]⟩), 150, none⟩,
      ⟨none, (.store 150 (.tmp 4) (.tmp 12)), 0, none⟩,
      ⟨none, (.store 150 (.tmp 5) (.tmp 19)), 0, none⟩] [(0, 3), (1, 3), (2, 3), (0, 4), (1, 4), (2, 4), (0, 7), (1, 7), (2, 7), (3, 7), (4, 7), (5, 7), (6, 7), (0, 8), (1, 8), (2, 8), (3, 8), (4, 8), (5, 8), (6, 8), (0, 10), (1, 10), (2, 10), (3, 10), (4, 10), (5, 10), (6, 10), (7, 10), (8, 10), (9, 10), (0, 11), (1, 11), (2, 11), (3, 11), (4, 11), (5, 11), (6, 11), (7, 11), (8, 11), (9, 11)])
    .ret))
theorem C148 {args : List AV} {r : AV} (hn : args.length ≤ 20) (h : vc Try.prog T [] A148 (Fin T [(.cell 4 150), (.cell 5 150)] r) ⟨envOf 0 args, []⟩) : CallP Try.prog 148 args r :=
  callP_of tok mixed Try.func148 (by kernel_rfl) (by kernel_rfl) (by kernel_rfl : Try.f148.ntmps = 20) (by kernel_rfl : Try.f148.body.bind (strip 20 (fun _ => [])) = some A148) hn h
def A145 : ACode :=
  (.seq (.reg [] [⟨some 2, (.box 72 (.tmp 0)), 0, none⟩,
      ⟨some 4, (.assign (.const (.slice none 0 0))), 23, none⟩])
    (.seq (.draw [] [⟨some 9, (.fieldAddr 72 (.tmp 2) 2), 0, none⟩,
      ⟨some 10, (.load 23 (.tmp 9)), 23, none⟩,
      ⟨some 11, (.call ⟨(.value (.func 149)), #[(.tmp 10)], #[23]⟩), 150, none⟩,
      ⟨some 12, (.makeFunc (.func 198) #[(.tmp 11)] #[]), 139, none⟩,
      ⟨some 13, (.fieldAddr 72 (.tmp 2) 3), 0, none⟩,
      ⟨some 14, (.load 23 (.tmp 13)), 23, none⟩,
      ⟨some 15, (.call ⟨(.value (.func 149)), #[(.tmp 14)], #[23]⟩), 150, none⟩,
      ⟨some 16, (.makeFunc (.func 198) #[(.tmp 15)] #[]), 139, none⟩,
      ⟨some 5, (.assign (.tmp 12)), 139, none⟩,
      ⟨some 6, (.assign (.tmp 16)), 139, none⟩] [(0, 4), (1, 4), (2, 4), (3, 4), (0, 5), (1, 5), (2, 5), (3, 5), (3, 6), (3, 7), (7, 8)])
    (.seq (.reg [] [⟨some 7, (.assign (.const (.slice none 0 0))), 23, none⟩])
    (.seq (.seq (.reg [] [⟨some 17, (.move (.tmp 1)), 23, none⟩,
      ⟨some 18, (.call ⟨(.builtin .len), #[(.tmp 17)], #[23]⟩), 3, none⟩,
      ⟨some 19, (.binOp .add 3 (.tmp 18) (.const (.int .i64 1)) 3), 3, none⟩,
      ⟨some 20, (.load 72 (.tmp 2)), 72, none⟩,
      ⟨some 21, (.call ⟨(.value (.func 199)), #[(.tmp 20)], #[72]⟩), 3, none⟩,
      ⟨some 22, (.binOp .sub 3 (.tmp 19) (.tmp 21) 3), 3, none⟩,
      ⟨some 23, (.move (.const (.int .i64 0))), 3, none⟩])
    (.block 0 (.loop (.seq (.reg [] [⟨some 24, (.binOp .lss 3 (.tmp 23) (.tmp 22) 3), 4, none⟩])
    (.seq (.cond (.tmp 24)
    .skip
    (.exit 0))
    (.seq (.block 1 (.seq (.reg [] [⟨some 25, (.move (.tmp 23)), 3, none⟩,
      ⟨some 8, (.assign (.tmp 25)), 3, none⟩])
    (.seq (.draw [] [⟨some 26, (.fieldAddr 72 (.tmp 2) 0), 0, none⟩,
      ⟨some 27, (.load 3 (.tmp 26)), 3, none⟩,
      ⟨some 28, (.binOp .eql 3 (.tmp 27) (.const (.int .i64 (-1))) 3), 4, none⟩,
      ⟨some 29, (.move (.tmp 28)), 4, none⟩,
      ⟨some 30, (.move (.tmp 1)), 23, some (29, false)⟩,
      ⟨some 31, (.move (.tmp 8)), 3, some (29, false)⟩,
      ⟨some 32, (.indexAddr 23 (.tmp 30) (.tmp 31)), 0, some (29, false)⟩,
      ⟨some 33, (.load 3 (.tmp 32)), 3, some (29, false)⟩,
      ⟨some 34, (.fieldAddr 72 (.tmp 2) 0), 0, some (29, false)⟩,
      ⟨some 35, (.load 3 (.tmp 34)), 3, some (29, false)⟩,
      ⟨some 36, (.binOp .eql 3 (.tmp 33) (.tmp 35) 3), 4, some (29, false)⟩,
      ⟨some 37, (.pick (.tmp 29) (.const (.bool true)) (.tmp 36)), 4, none⟩,
      ⟨some 38, (.move (.tmp 37)), 4, none⟩,
      ⟨some 39, (.move (.tmp 5)), 139, some (38, true)⟩,
      ⟨some 40, (.move (.tmp 1)), 23, some (38, true)⟩,
      ⟨some 41, (.move (.tmp 8)), 3, some (38, true)⟩,
      ⟨some 42, (.binOp .sub 3 (.tmp 41) (.const (.int .i64 1)) 3), 3, some (38, true)⟩,
      ⟨some 43, (.call ⟨(.value (.func 200)), #[(.tmp 40), (.tmp 42)], #[23, 3]⟩), 3, some (38, true)⟩,
      ⟨some 44, (.call ⟨(.value (.tmp 39)), #[(.tmp 43)], #[3]⟩), 4, some (38, true)⟩,
      ⟨some 45, (.pick (.tmp 38) (.tmp 44) (.const (.bool false))), 4, none⟩,
      ⟨some 46, (.move (.tmp 45)), 4, none⟩,
      ⟨some 47, (.move (.tmp 6)), 139, some (46, true)⟩,
      ⟨some 48, (.move (.tmp 1)), 23, some (46, true)⟩,
      ⟨some 49, (.move (.tmp 8)), 3, some (46, true)⟩,
      ⟨some 50, (.load 72 (.tmp 2)), 72, some (46, true)⟩,
      ⟨some 51, (.call ⟨(.value (.func 199)), #[(.tmp 50)], #[72]⟩), 3, some (46, true)⟩,
      ⟨some 52, (.binOp .add 3 (.tmp 49) (.tmp 51) 3), 3, some (46, true)⟩,
      ⟨some 53, (.call ⟨(.value (.func 200)), #[(.tmp 48), (.tmp 52)], #[23, 3]⟩), 3, some (46, true)⟩,
      ⟨some 54, (.call ⟨(.value (.tmp 47)), #[(.tmp 53)], #[3]⟩), 4, some (46, true)⟩,
      ⟨some 55, (.pick (.tmp 46) (.tmp 54) (.const (.bool false))), 4, none⟩] [(4, 5), (4, 8), (5, 8), (6, 8), (7, 8), (4, 9), (5, 9), (6, 9), (7, 9), (13, 14), (13, 15), (14, 15), (13, 16), (14, 16), (13, 17), (21, 22), (21, 23), (22, 23), (21, 24), (22, 24), (23, 24), (21, 25), (22, 25), (23, 25), (21, 26), (22, 26), (21, 27)])
    (.cond (.tmp 55)
    (.reg [] [⟨some 56, (.move (.tmp 7)), 23, none⟩,
      ⟨some 57, (.move (.tmp 8)), 3, none⟩,
      ⟨some 58, (.buildSlice 23 1 #[(0, (.tmp 57))]), 23, none⟩,
      ⟨some 59, (.call ⟨(.builtin .append), #[(.tmp 56), (.tmp 58)], #[23, 23]⟩), 23, none⟩,
      ⟨some 7, (.assign (.tmp 59)), 23, none⟩])
    .skip))))
    (.reg [] [⟨some 60, (.binOp .add 3 (.tmp 23) (.const (.int .i64 1)) 3), 3, none⟩,
      ⟨some 23, (.move (.tmp 60)), 3, none⟩])))))))
    (.seq (.reg [] [⟨some 61, (.move (.tmp 7)), 23, none⟩,
      ⟨some 4, (.assign (.tmp 61)), 23, none⟩])
    .ret)))))
theorem C145 {args : List AV} {r : AV} (hn : args.length ≤ 62) (h : vc Try.prog T [] A145 (Fin T [(.tmp 4)] r) ⟨envOf 0 args, []⟩) : CallP Try.prog 145 args r :=
  callP_of tok mixed Try.func145 (by kernel_rfl) (by kernel_rfl) (by kernel_rfl : Try.f145.ntmps = 62) (by kernel_rfl : Try.f145.body.bind (strip 62 (fun _ => [])) = some A145) hn h
def A156 : ACode :=
  (.seq (.reg [] [⟨some 3, (.box 72 (.tmp 0)), 0, none⟩,
      ⟨some 6, (.assign (.const (.slice none 0 0))), 23, none⟩])
    (.seq (.draw [] [⟨some 7, (.move (.tmp 1)), 23, none⟩,
      ⟨some 8, (.move (.tmp 2)), 3, none⟩,
      ⟨some 9, (.slice 23 (.tmp 7) none (some (.tmp 8)) none), 23, none⟩,
      ⟨some 10, (.fieldAddr 72 (.tmp 3) 1), 0, none⟩,
      ⟨some 11, (.load 23 (.tmp 10)), 23, none⟩,
      ⟨some 12, (.move (.tmp 1)), 23, none⟩,
      ⟨some 13, (.move (.tmp 2)), 3, none⟩,
      ⟨some 14, (.load 72 (.tmp 3)), 72, none⟩,
      ⟨some 15, (.call ⟨(.value (.func 199)), #[(.tmp 14)], #[72]⟩), 3, none⟩,
      ⟨some 16, (.binOp .add 3 (.tmp 13) (.tmp 15) 3), 3, none⟩,
      ⟨some 17, (.slice 23 (.tmp 12) (some (.tmp 16)) none none), 23, none⟩,
      ⟨some 18, (.buildSlice 62 3 #[(0, (.tmp 9)), (1, (.tmp 11)), (2, (.tmp 17))]), 62, none⟩,
      ⟨some 19, (.call ⟨(.value (.func 207)), #[(.tmp 18)], #[62]⟩), 23, none⟩,
      ⟨some 6, (.assign (.tmp 19)), 23, none⟩] [(0, 1), (0, 3), (1, 3), (2, 3), (0, 4), (1, 4), (2, 4), (0, 5), (1, 5), (2, 5), (3, 5), (4, 5), (0, 6), (1, 6), (2, 6), (3, 6), (4, 6), (5, 6), (0, 7), (1, 7), (2, 7), (3, 7), (4, 7), (5, 7), (6, 7), (0, 8), (1, 8), (2, 8), (3, 8), (4, 8), (5, 8), (6, 8), (0, 9), (1, 9), (2, 9), (3, 9), (4, 9), (5, 9), (0, 10), (1, 10), (2, 10), (3, 10), (4, 10)])
    .ret))
theorem C156 {args : List AV} {r : AV} (hn : args.length ≤ 20) (h : vc Try.prog T [] A156 (Fin T [(.tmp 6)] r) ⟨envOf 0 args, []⟩) : CallP Try.prog 156 args r :=
  callP_of tok mixed Try.func156 (by kernel_rfl) (by kernel_rfl) (by kernel_rfl : Try.f156.ntmps = 20) (by kernel_rfl : Try.f156.body.bind (strip 20 (fun _ => [])) = some A156) hn h
def A70 : ACode :=
  (.seq (.reg [] [⟨some 3, (.box 72 (.tmp 0)), 0, none⟩,
      ⟨some 6, (.assign (.const (.slice none 0 0))), 23, none⟩,
      ⟨some 7, (.assign (.const (.int .i64 0))), 29, none⟩])
    (.seq (.seq (.reg [] [⟨some 9, (.load 72 (.tmp 3)), 72, none⟩,
      ⟨some 10, (.move (.tmp 1)), 23, none⟩,
      ⟨some 11, (.call ⟨(.value (.func 144)), #[(.tmp 9), (.tmp 10)], #[72, 23]⟩), 29, none⟩,
      ⟨some 8, (.assign (.tmp 11)), 29, none⟩])
    (.seq (.reg [] [⟨some 12, (.move (.tmp 8)), 29, none⟩,
      ⟨some 13, (.binOp .neq 29 (.tmp 12) (.const (.int .i64 0)) 29), 4, none⟩])
    (.cond (.tmp 13)
    (.seq (.reg [] [⟨some 14, (.move (.tmp 8)), 29, none⟩,
      ⟨some 6, (.assign (.const (.slice none 0 0))), 23, none⟩,
      ⟨some 7, (.assign (.tmp 14)), 29, none⟩])
    .ret)
    .skip)))
    (.seq (.seq (.reg [] [⟨some 15, (.load 72 (.tmp 3)), 72, none⟩,
      ⟨some 16, (.move (.tmp 1)), 23, none⟩,
      ⟨some 17, (.call ⟨(.value (.func 145)), #[(.tmp 15), (.tmp 16)], #[72, 23]⟩), 23, none⟩,
      ⟨some 18, (.move (.tmp 2)), 3, none⟩,
      ⟨some 19, (.call ⟨(.value (.func 134)), #[(.tmp 17), (.tmp 18)], #[23, 3]⟩), 4, none⟩,
      ⟨some 20, (.unOp .not 4 (.tmp 19)), 4, none⟩])
    (.cond (.tmp 20)
    (.seq (.reg [] [⟨some 6, (.assign (.const (.slice none 0 0))), 23, none⟩,
      ⟨some 7, (.assign (.const (.int .i64 6))), 29, none⟩])
    .ret)
    .skip))
    (.seq (.reg [] [⟨some 21, (.load 72 (.tmp 3)), 72, none⟩,
      ⟨some 22, (.move (.tmp 1)), 23, none⟩,
      ⟨some 23, (.move (.tmp 2)), 3, none⟩,
      ⟨some 24, (.call ⟨(.value (.func 156)), #[(.tmp 21), (.tmp 22), (.tmp 23)], #[72, 23, 3]⟩), 23, none⟩,
      ⟨some 25, (.call ⟨(.value (.func 154)), #[(.tmp 24)], #[23]⟩), 32, none⟩,
      ⟨some 26, (.extract (.tmp 25) 0), 23, none⟩,
      ⟨some 27, (.extract (.tmp 25) 1), 29, none⟩,
      ⟨some 6, (.assign (.tmp 26)), 23, none⟩,
      ⟨some 7, (.assign (.tmp 27)), 29, none⟩])
    .ret))))
theorem C70 {args : List AV} {r : AV} (hn : args.length ≤ 28) (h : vc Try.prog T [] A70 (Fin T [(.tmp 6), (.tmp 7)] r) ⟨envOf 0 args, []⟩) : CallP Try.prog 70 args r :=
  callP_of tok mixed Try.func70 (by kernel_rfl) (by kernel_rfl) (by kernel_rfl : Try.f70.ntmps = 28) (by kernel_rfl : Try.f70.body.bind (strip 28 (fun _ => [])) = some A70) hn h
def A60 : ACode :=
  (.seq (.reg [] [⟨some 2, (.box 72 (.tmp 0)), 0, none⟩,
      ⟨some 4, (.assign (.const (.slice none 0 0))), 23, none⟩,
      ⟨some 5, (.assign (.const (.int .i64 0))), 29, none⟩])
    (.seq (.seq (.reg [] [⟨some 7, (.load 72 (.tmp 2)), 72, none⟩,
      ⟨some 8, (.move (.tmp 1)), 23, none⟩,
      ⟨some 9, (.call ⟨(.value (.func 144)), #[(.tmp 7), (.tmp 8)], #[72, 23]⟩), 29, none⟩,
      ⟨some 6, (.assign (.tmp 9)), 29, none⟩])
    (.seq (.reg [] [⟨some 10, (.move (.tmp 6)), 29, none⟩,
      ⟨some 11, (.binOp .neq 29 (.tmp 10) (.const (.int .i64 0)) 29), 4, none⟩])
    (.cond (.tmp 11)
    (.seq (.reg [] [⟨some 12, (.move (.tmp 6)), 29, none⟩,
      ⟨some 4, (.assign (.const (.slice none 0 0))), 23, none⟩,
      ⟨some 5, (.assign (.tmp 12)), 29, none⟩])
    .ret)
    .skip)))
    (.seq (.reg [] [⟨some 13, (.load 72 (.tmp 2)), 72, none⟩,
      ⟨some 14, (.move (.tmp 1)), 23, none⟩,
      ⟨some 15, (.call ⟨(.value (.func 145)), #[(.tmp 13), (.tmp 14)], #[72, 23]⟩), 23, none⟩,
      ⟨some 4, (.assign (.tmp 15)), 23, none⟩,
      ⟨some 5, (.assign (.const (.int .i64 0))), 29, none⟩])
    .ret)))
theorem C60 {args : List AV} {r : AV} (hn : args.length ≤ 16) (h : vc Try.prog T [] A60 (Fin T [(.tmp 4), (.tmp 5)] r) ⟨envOf 0 args, []⟩) : CallP Try.prog 60 args r :=
  callP_of tok mixed Try.func60 (by kernel_rfl) (by kernel_rfl) (by kernel_rfl : Try.f60.ntmps = 16) (by kernel_rfl : Try.f60.body.bind (strip 16 (fun _ => [])) = some A60) hn h
def A63 : ACode :=
  (.seq (.reg [] [⟨some 2, (.box 72 (.tmp 0)), 0, none⟩,
      ⟨some 3, (.box 72 (.tmp 1)), 0, none⟩,
      ⟨some 4, (.assign (.const (.bool false))), 4, none⟩,
      ⟨some 5, (.assign (.const (.int .i64 0))), 29, none⟩])
    (.seq (.seq (.reg [] [⟨some 9, (.load 72 (.tmp 2)), 72, none⟩,
      ⟨some 10, (.load 72 (.tmp 3)), 72, none⟩,
      ⟨some 11, (.call ⟨(.value (.func 147)), #[(.tmp 9), (.tmp 10)], #[72, 72]⟩), 29, none⟩,
      ⟨some 6, (.assign (.tmp 11)), 29, none⟩])
    (.seq (.reg [] [⟨some 12, (.move (.tmp 6)), 29, none⟩,
      ⟨some 13, (.binOp .neq 29 (.tmp 12) (.const (.int .i64 0)) 29), 4, none⟩])
    (.cond (.tmp 13)
    (.seq (.reg [] [⟨some 14, (.move (.tmp 6)), 29, none⟩,
      ⟨some 4, (.assign (.const (.bool false))), 4, none⟩,
      ⟨some 5, (.assign (.tmp 14)), 29, none⟩])
    .ret)
    .skip)))
    (.seq (.reg [] [⟨some 16, (.load 72 (.tmp 2)), 72, none⟩,
      ⟨some 17, (.load 72 (.tmp 3)), 72, none⟩,
      ⟨some 18, (.call ⟨(.value (.func 148)), #[(.tmp 16), (.tmp 17)], #[72, 72]⟩), 151, none⟩,
      ⟨some 15, (.move (.tmp 18)), 151, none⟩,
      ⟨some 19, (.extract (.tmp 15) 0), 150, none⟩,
      ⟨some 20, (.extract (.tmp 15) 1), 150, none⟩,
      ⟨some 7, (.alloc 150), 0, none⟩,
      ⟨some 8, (.alloc 150), 0, none⟩,
      ⟨none, (.store 150 (.tmp 7) (.tmp 19)), 0, none⟩,
      ⟨none, (.store 150 (.tmp 8) (.tmp 20)), 0, none⟩])
    (.seq (.draw [] [⟨some 21, (.fieldAddr 72 (.tmp 2) 0), 0, none⟩,
      ⟨some 22, (.load 3 (.tmp 21)), 3, none⟩,
      ⟨some 23, (.fieldAddr 72 (.tmp 3) 0), 0, none⟩,
      ⟨some 24, (.load 3 (.tmp 23)), 3, none⟩,
      ⟨some 25, (.binOp .eql 3 (.tmp 22) (.tmp 24) 3), 4, none⟩,
      ⟨some 26, (.move (.tmp 25)), 4, none⟩,
      ⟨some 27, (.load 150 (.tmp 7)), 150, some (26, true)⟩,
      ⟨some 28, (.fieldAddr 72 (.tmp 2) 2), 0, some (26, true)⟩,
      ⟨some 29, (.load 23 (.tmp 28)), 23, some (26, true)⟩,
      ⟨some 30, (.call ⟨(.value (.func 149)), #[(.tmp 29)], #[23]⟩), 150, some (26, true)⟩,
      ⟨some 31, (.binOp .eql 150 (.tmp 27) (.tmp 30) 150), 4, some (26, true)⟩,
      ⟨some 32, (.pick (.tmp 26) (.tmp 31) (.const (.bool false))), 4, none⟩,
      ⟨some 33, (.move (.tmp 32)), 4, none⟩,
      ⟨some 34, (.load 150 (.tmp 8)), 150, some (33, true)⟩,
      ⟨some 35, (.fieldAddr 72 (.tmp 2) 3), 0, some (33, true)⟩,
      ⟨some 36, (.load 23 (.tmp 35)), 23, some (33, true)⟩,
      ⟨some 37, (.call ⟨(.value (.func 149)), #[(.tmp 36)], #[23]⟩), 150, some (33, true)⟩,
      ⟨some 38, (.binOp .eql 150 (.tmp 34) (.tmp 37) 150), 4, some (33, true)⟩,
      ⟨some 39, (.pick (.tmp 33) (.tmp 38) (.const (.bool false))), 4, none⟩,
      ⟨some 4, (.assign (.tmp 39)), 4, none⟩,
      ⟨some 5, (.assign (.const (.int .i64 0))), 29, none⟩] [(0, 2), (1, 2), (0, 3), (1, 3), (6, 7), (6, 8), (6, 9), (13, 14), (13, 15), (13, 16)])
    .ret))))
theorem C63 {args : List AV} {r : AV} (hn : args.length ≤ 40) (h : vc Try.prog T [] A63 (Fin T [(.tmp 4), (.tmp 5)] r) ⟨envOf 0 args, []⟩) : CallP Try.prog 63 args r :=
  callP_of tok mixed Try.func63 (by kernel_rfl) (by kernel_rfl) (by kernel_rfl : Try.f63.ntmps = 40) (by kernel_rfl : Try.f63.body.bind (strip 40 (fun _ => [])) = some A63) hn h
def A147 : ACode :=
  (.seq (.reg [] [⟨some 2, (.box 72 (.tmp 0)), 0, none⟩,
      ⟨some 3, (.box 72 (.tmp 1)), 0, none⟩,
      ⟨some 4, (.assign (.const (.int .i64 0))), 29, none⟩])
    (.seq (.seq (.reg [] [⟨some 6, (.load 72 (.tmp 2)), 72, none⟩,
      ⟨some 7, (.call ⟨(.value (.func 150)), #[(.tmp 6)], #[72]⟩), 29, none⟩,
      ⟨some 5, (.assign (.tmp 7)), 29, none⟩])
    (.seq (.reg [] [⟨some 8, (.move (.tmp 5)), 29, none⟩,
      ⟨some 9, (.binOp .neq 29 (.tmp 8) (.const (.int .i64 0)) 29), 4, none⟩])
    (.cond (.tmp 9)
    (.seq (.reg [] [⟨some 10, (.move (.tmp 5)), 29, none⟩,
      ⟨some 4, (.assign (.tmp 10)), 29, none⟩])
    .ret)
    .skip)))
    (.seq (.reg [] [⟨some 11, (.load 72 (.tmp 3)), 72, none⟩,
      ⟨some 12, (.call ⟨(.value (.func 150)), #[(.tmp 11)], #[72]⟩), 29, none⟩,
      ⟨some 4, (.assign (.tmp 12)), 29, none⟩])
    .ret)))
theorem C147 {args : List AV} {r : AV} (hn : args.length ≤ 13) (h : vc Try.prog T [] A147 (Fin T [(.tmp 4)] r) ⟨envOf 0 args, []⟩) : CallP Try.prog 147 args r :=
  callP_of tok mixed Try.func147 (by kernel_rfl) (by kernel_rfl) (by kernel_rfl : Try.f147.ntmps = 13) (by kernel_rfl : Try.f147.body.bind (strip 13 (fun _ => [])) = some A147) hn h

end Go.Proofs.Ytaooenmkofjafaa
end

section
/- Contracts: the checks of package rule. -/
namespace Go.Proofs.Ytaooenmkofjafaa
open Go.Abs Go
set_option maxRecDepth 20000
set_option maxHeartbeats 2000000
attribute [local irreducible] PreK CondK CallK CallG CallX LoopK

theorem equal_c (a b : List Int) (ha : a.length ≤ big) : CallP Try.prog 137 [ints a, ints b] (bv (decide (a = b))) := by
  refine C137 (by simp) ?_
  generalize hR : decide (a = b) = R
  simp [A137]
  refine CondK.intro (fun h => ?_) (fun h => ?_)
  · simp at h
    have : a ≠ b := fun e => h (by rw [e])
    simp [this] at hR
    simp [hR]
  · simp at h
    simp
    refine LoopK.by (fun i : Nat => ⟨[(13, iv i), (12, iv a.length), (0, ints a), (1, ints b)], []⟩) (fun i => a.length - i) (fun i => i ≤ a.length ∧ decide (a.drop i = b.drop i) = R) 0 (by simpa using hR) (by simp) ?_
    intro i Q' ⟨hi, hc⟩ hq he hr
    simp
    refine CondK.intro (fun h2 => ?_) (fun h2 => ?_)
    · simp at h2
      rw [drop_cons a i h2, drop_cons b i (by omega)] at hc
      simp [h2, show i < b.length by omega]
      refine CondK.intro (fun h3 => ?_) (fun h3 => ?_)
      · simp at h3
        simp [h3] at hc
        simp
        apply hr
        simp [hc]
      · simp at h3
        simp [h3] at hc
        simp
        refine PreK.intro (by simp only [big] at ha; omega) fun _ => ?_
        simp
        exact hq (i + 1) _ ⟨by omega, by simpa using hc⟩ (by omega) (by simp)
    · simp at h2
      rw [List.drop_eq_nil_of_le (by omega), List.drop_eq_nil_of_le (by omega)] at hc
      simp at hc
      simp
      apply he
      simp [hc]

def wordErr (w : List Int) : Int := if 8 < w.length then 3 else if w.any (fun x => !isSound x) then 1 else 0
theorem validateWord_c (w : List Int) (hw : w.length ≤ big) : CallP Try.prog 135 [ints w] (iv (wordErr w)) := by
  refine C135 (by simp) ?_
  generalize hR : wordErr w = R
  unfold wordErr at hR
  simp [A135]
  refine CondK.intro (fun h => ?_) (fun h => ?_)
  · simp at h
    rw [if_pos (by omega)] at hR
    simp [hR]
  · simp at h
    rw [if_neg (by omega)] at hR
    simp
    refine CallX.pure (by simpa using areSounds_c w hw) (by simp) (by simp) ?_
    simp
    refine CondK.intro (fun h2 => ?_) (fun h2 => ?_)
    · have h3 : w.any (fun x => !isSound x) = true := by simpa using h2
      rw [if_pos h3] at hR
      simp [hR]
    · have h3 : ¬ w.any (fun x => !isSound x) = true := by simpa using h2
      rw [if_neg h3] at hR
      simp [hR]

def setF : Option Int → List Int → Bool
  | _, [] => true
  | p, x :: r => isNeighbor x && (match p with | some y => decide (y < x) | none => true) && setF (some x) r
def lessO (p : Option Int) (x : Int) : Bool := match p with | some y => decide (y < x) | none => true
theorem setF_cons (p : Option Int) (x : Int) (r : List Int) : setF p (x :: r) = (isNeighbor x && lessO p x && setF (some x) r) := by cases p <;> rfl
def prevOf (l : List Int) (i : Nat) : Option Int := if i = 0 then none else some (el l (i - 1))
theorem isSet_c (l : List Int) (hl : l.length ≤ big) : CallP Try.prog 203 [ints l] (bv (setF none l)) := by
  refine C203 (by simp) ?_
  generalize hR : setF none l = R
  simp [A203]
  refine LoopK.by (fun i : Nat => ⟨[(7, iv i), (6, iv l.length), (5, ints l), (0, ints l)], []⟩) (fun i => l.length - i) (fun i => i ≤ l.length ∧ setF (prevOf l i) (l.drop i) = R) 0 (by simpa [prevOf] using hR) (by simp) ?_
  intro i Q' ⟨hi, hc⟩ hq he hr
  simp
  refine CondK.intro (fun h => ?_) (fun h => ?_)
  · simp at h
    rw [drop_cons l i h, setF_cons] at hc
    simp [h]
    refine CallX.pure (by simpa using isNeighbor_c (el l i)) (by simp) (by simp) ?_
    simp
    have e1 : ((i : Int) - 1).toNat = i - 1 := by omega
    have h1 : i - 1 < l.length := by omega
    refine PreK.intro (fun a b => ⟨by simp only [big] at hl; omega, a, b⟩) fun _ => ?_
    simp [e1, h1]
    refine PreK.intro (fun a b => ⟨by omega, a, b⟩) fun _ => ?_
    simp [e1, h1]
    have hprev : lessO (prevOf l i) (el l i) = (!(decide (0 < i) && decide (el l i ≤ el l (i - 1)))) := by
      unfold prevOf
      by_cases h0 : i = 0
      · simp [h0, lessO]
      · simp [h0, lessO, show 0 < i by omega]
        by_cases h6 : el l (i - 1) < el l i
        · simp [h6]
        · simp [h6]; omega
    rw [hprev] at hc
    refine PreK.intro (fun a => ⟨fun b => ⟨a, b⟩, a⟩) fun _ => ?_
    simp
    refine CondK.intro (fun h4 => ?_) (fun h4 => ?_)
    · have : (isNeighbor (el l i) && !(decide (0 < i) && decide (el l i ≤ el l (i - 1)))) = false := by
        revert h4; cases isNeighbor (el l i) <;> cases decide (0 < i) <;> cases decide (el l i ≤ el l (i - 1)) <;> simp
      rw [this] at hc
      simp at hc
      simp
      apply hr
      simp [hc]
    · have : (isNeighbor (el l i) && !(decide (0 < i) && decide (el l i ≤ el l (i - 1)))) = true := by
        revert h4; cases isNeighbor (el l i) <;> cases decide (0 < i) <;> cases decide (el l i ≤ el l (i - 1)) <;> simp
      rw [this] at hc
      simp at hc
      simp
      refine PreK.intro (by simp only [big] at hl; omega) fun _ => ?_
      simp
      exact hq (i + 1) _ ⟨by omega, by simpa [prevOf] using hc⟩ (by omega) (by simp)
  · simp at h
    rw [List.drop_eq_nil_of_le (by omega)] at hc
    simp [setF] at hc
    simp
    apply he
    simp [hc]
end Go.Proofs.Ytaooenmkofjafaa
end

section
/- Contracts: rule.Validate. -/
namespace Go.Proofs.Ytaooenmkofjafaa
open Go.Abs Go
set_option maxRecDepth 20000
set_option maxHeartbeats 2000000
attribute [local irreducible] PreK CondK CallK CallG CallX LoopK

def ruleErr (r : Rule) : Int :=
  if !isNeighbor r.frm then 1 else if 2 < r.to.length then 3 else if r.to.any (fun x => !isSound x) || !setF none r.left || !setF none r.right then 1
  else if (decide (r.frm = -1) && decide (r.to.length = 0)) || decide (r.to = [r.frm]) then 6 else 0
theorem validate_c (r : Rule) (h1 : r.to.length ≤ big) (h2 : r.left.length ≤ big) (h3 : r.right.length ≤ big) : CallP Try.prog 150 [ruleV r] (iv (ruleErr r)) := by
  refine C150 (by simp) ?_
  generalize hR : ruleErr r = R
  unfold ruleErr at hR
  simp [A150]
  refine CallX.pure (by simpa using isNeighbor_c r.frm) (by simp) (by simp) ?_
  simp
  refine CondK.intro (fun h => ?_) (fun h => ?_)
  · simp at h
    simp [h] at hR
    simp [hR]
  · simp at h
    simp only [h, Bool.not_true, Bool.false_eq_true, if_false] at hR
    simp
    refine CondK.intro (fun h4 => ?_) (fun h4 => ?_)
    · simp at h4
      rw [if_pos (by omega)] at hR
      simp [hR]
    · simp at h4
      rw [if_neg (by omega)] at hR
      simp
      refine CallX.pure (by simpa using areSounds_c r.to h1) (by simp) (by simp) ?_
      simp
      refine CallG.intro (fun _ => by simpa using isSet_c r.left h2) (by simp) (by simp) ?_
      simp
      refine CallG.intro (fun _ => by simpa using isSet_c r.right h3) (by simp) (by simp) ?_
      simp
      refine CondK.intro (fun h5 => ?_) (fun h5 => ?_)
      · rw [if_pos h5] at hR
        simp [hR]
      · rw [if_neg (by rw [h5]; simp)] at hR
        simp
        refine CondK.intro (fun h6 => ?_) (fun h6 => ?_)
        · simp at h6
          simp [h6] at hR
          simp [h6, hR]
          refine CondK.intro (fun _ => ?_) (fun h => by simp at h)
          simp [hR]
        · have h7 : (decide (r.frm = -1) && decide (r.to.length = 0)) = false := by simpa using h6
          rw [h7, Bool.false_or] at hR
          simp
          refine CallX.pure (by simpa using equal_c r.to [r.frm] h1) (by simp) (by simp) ?_
          simp
          refine CondK.intro (fun h8 => ?_) (fun h8 => ?_)
          · simp at h8
            simp [h8] at hR
            simp [hR]
          · simp at h8
            simp [h8] at hR
            simp [hR]
end Go.Proofs.Ytaooenmkofjafaa
end

section
/- Contracts: sides and places of rules. -/
namespace Go.Proofs.Ytaooenmkofjafaa
open Go.Abs Go
set_option maxRecDepth 20000
set_option maxHeartbeats 2000000
attribute [local irreducible] PreK CondK CallK CallG CallX LoopK

/-- Which neighbors may be by a set: 7 answers. -/
def mayS (set : List Int) (n : Int) : Bool := decide (set = []) || set.any fun x => decide (n = x)
def sideL (set : List Int) : List Bool := [mayS set (-1), mayS set 0, mayS set 1, mayS set 2, mayS set 3, mayS set 4, mayS set 5]
@[simp] def sideV (s : List Bool) : AV := .agg (s.map bv)
theorem of_c (set : List Int) (hs : set.length ≤ big) : CallP Try.prog 149 [ints set] (sideV (sideL set)) := by
  refine C149 (by simp) ?_
  simp [A149]
  refine LoopK.by (fun i : Nat => ⟨[(5, iv i), (0, ints set), (3, .pt 3 1 0 0), (2, .pt 2 1 0 0)], [(3, some ⟨7, [.agg (((sideL set).take i ++ List.replicate (7 - i) false).map bv)], 1, true⟩), (2, some ⟨7, [.agg ((List.replicate 7 false).map bv)], 1, true⟩)]⟩) (fun i => 7 - i) (fun i => i ≤ 7) 0 (by simp) (by simp [List.replicate, sideL]) ?_
  intro i Q' hi hq he hr
  have hcall : ∀ n : Int, CallP Try.prog 134 [ints set, iv n] (bv (set.any fun x => decide (n = x))) := fun n => contains_c set n hs
  have hm : ∀ n, (bif decide (set = []) then true else set.any fun x => decide (n = x)) = mayS set n := fun n => by
    unfold mayS; cases decide (set = []) <;> rfl
  by_cases h7 : i = 7
  · subst h7
    simp [sideL, List.replicate]
    refine CondK.intro (fun h => by simp at h) (fun _ => ?_)
    simp
    apply he
    simp [sideL]
  · have hcase : i = 0 ∨ i = 1 ∨ i = 2 ∨ i = 3 ∨ i = 4 ∨ i = 5 ∨ i = 6 := by omega
    rcases hcase with rfl | rfl | rfl | rfl | rfl | rfl | rfl
    · simp [sideL, List.replicate]
      refine CondK.intro (fun _ => ?_) (fun h => by simp at h)
      simp
      refine CallG.intro (fun _ => by simpa using hcall (-1)) (by simp) (by simp) ?_
      simp
      exact hq 1 _ (by omega) (by omega) (by simp [sideL, mayS, List.replicate])
    · simp [sideL, List.replicate]
      refine CondK.intro (fun _ => ?_) (fun h => by simp at h)
      simp
      refine CallG.intro (fun _ => by simpa using hcall (0)) (by simp) (by simp) ?_
      simp
      exact hq 2 _ (by omega) (by omega) (by simp [sideL, mayS, List.replicate])
    · simp [sideL, List.replicate]
      refine CondK.intro (fun _ => ?_) (fun h => by simp at h)
      simp
      refine CallG.intro (fun _ => by simpa using hcall (1)) (by simp) (by simp) ?_
      simp
      exact hq 3 _ (by omega) (by omega) (by simp [sideL, mayS, List.replicate])
    · simp [sideL, List.replicate]
      refine CondK.intro (fun _ => ?_) (fun h => by simp at h)
      simp
      refine CallG.intro (fun _ => by simpa using hcall (2)) (by simp) (by simp) ?_
      simp
      exact hq 4 _ (by omega) (by omega) (by simp [sideL, mayS, List.replicate])
    · simp [sideL, List.replicate]
      refine CondK.intro (fun _ => ?_) (fun h => by simp at h)
      simp
      refine CallG.intro (fun _ => by simpa using hcall (3)) (by simp) (by simp) ?_
      simp
      exact hq 5 _ (by omega) (by omega) (by simp [sideL, mayS, List.replicate])
    · simp [sideL, List.replicate]
      refine CondK.intro (fun _ => ?_) (fun h => by simp at h)
      simp
      refine CallG.intro (fun _ => by simpa using hcall (4)) (by simp) (by simp) ?_
      simp
      exact hq 6 _ (by omega) (by omega) (by simp [sideL, mayS, List.replicate])
    · simp [sideL, List.replicate]
      refine CondK.intro (fun _ => ?_) (fun h => by simp at h)
      simp
      refine CallG.intro (fun _ => by simpa using hcall (5)) (by simp) (by simp) ?_
      simp
      exact hq 7 _ (by omega) (by omega) (by simp [sideL, mayS, List.replicate])
end Go.Proofs.Ytaooenmkofjafaa
end

section
/- Contracts: sides and places of rules, part 2. -/
namespace Go.Proofs.Ytaooenmkofjafaa
open Go.Abs Go
set_option maxRecDepth 20000
set_option maxHeartbeats 2000000
attribute [local irreducible] PreK CondK CallK CallG CallX LoopK

theorem and_c (a0 a1 a2 a3 a4 a5 a6 b0 b1 b2 b3 b4 b5 b6 : Bool) : CallP Try.prog 201 [sideV [a0, a1, a2, a3, a4, a5, a6], sideV [b0, b1, b2, b3, b4, b5, b6]] (sideV [(a0 && b0), (a1 && b1), (a2 && b2), (a3 && b3), (a4 && b4), (a5 && b5), (a6 && b6)]) := by
  refine C201 (by simp) ?_
  simp [A201]
  refine LoopK.by (fun i : Nat => ⟨[(6, iv i), (2, .pt 2 1 0 0), (3, .pt 3 1 0 0), (4, .pt 4 1 0 0)], [(2, some ⟨7, [.agg (([(a0 && b0), (a1 && b1), (a2 && b2), (a3 && b3), (a4 && b4), (a5 && b5), (a6 && b6)].take i ++ [a0, a1, a2, a3, a4, a5, a6].drop i).map bv)], 1, true⟩), (3, some ⟨7, [.agg ([b0, b1, b2, b3, b4, b5, b6].map bv)], 1, true⟩), (4, some ⟨7, [.agg ((List.replicate 7 false).map bv)], 1, true⟩)]⟩) (fun i => 7 - i) (fun i => i ≤ 7) 0 (by simp) (by simp [List.replicate]) ?_
  intro i Q' hi hq he hr
  by_cases h7 : i = 7
  · subst h7
    simp [List.replicate]
    refine CondK.intro (fun h => by simp at h) (fun _ => ?_)
    simp
    apply he
    simp
  · have hcase : i = 0 ∨ i = 1 ∨ i = 2 ∨ i = 3 ∨ i = 4 ∨ i = 5 ∨ i = 6 := by omega
    rcases hcase with rfl | rfl | rfl | rfl | rfl | rfl | rfl
    · simp [List.replicate]
      refine CondK.intro (fun _ => ?_) (fun h => by simp at h)
      simp
      exact hq 1 _ (by omega) (by omega) (by simp [List.replicate])
    · simp [List.replicate]
      refine CondK.intro (fun _ => ?_) (fun h => by simp at h)
      simp
      exact hq 2 _ (by omega) (by omega) (by simp [List.replicate])
    · simp [List.replicate]
      refine CondK.intro (fun _ => ?_) (fun h => by simp at h)
      simp
      exact hq 3 _ (by omega) (by omega) (by simp [List.replicate])
    · simp [List.replicate]
      refine CondK.intro (fun _ => ?_) (fun h => by simp at h)
      simp
      exact hq 4 _ (by omega) (by omega) (by simp [List.replicate])
    · simp [List.replicate]
      refine CondK.intro (fun _ => ?_) (fun h => by simp at h)
      simp
      exact hq 5 _ (by omega) (by omega) (by simp [List.replicate])
    · simp [List.replicate]
      refine CondK.intro (fun _ => ?_) (fun h => by simp at h)
      simp
      exact hq 6 _ (by omega) (by omega) (by simp [List.replicate])
    · simp [List.replicate]
      refine CondK.intro (fun _ => ?_) (fun h => by simp at h)
      simp
      exact hq 7 _ (by omega) (by omega) (by simp [List.replicate])
end Go.Proofs.Ytaooenmkofjafaa
end

section
/- Functions of the cut as the value layer reads them. (written by gen.py) -/
set_option maxRecDepth 20000
namespace Go.Proofs.Ytaooenmkofjafaa
open Go.Abs Go

def A198 : ACode :=
  (.seq (.reg [] [⟨some 2, (.box 150 (.tmp 0)), 0, none⟩,
      ⟨some 4, (.assign (.const (.bool false))), 4, none⟩])
    (.seq (.reg [] [⟨some 5, (.move (.tmp 1)), 3, none⟩,
      ⟨some 6, (.binOp .add 3 (.tmp 5) (.const (.int .i64 1)) 3), 3, none⟩,
      ⟨some 7, (.indexAddr 150 (.tmp 2) (.tmp 6)), 0, none⟩,
      ⟨some 8, (.load 4 (.tmp 7)), 4, none⟩,
      ⟨some 4, (.assign (.tmp 8)), 4, none⟩])
    .ret))
theorem C198 {args : List AV} {r : AV} (hn : args.length ≤ 9) (h : vc Try.prog T [] A198 (Fin T [(.tmp 4)] r) ⟨envOf 0 args, []⟩) : CallP Try.prog 198 args r :=
  callP_of tok mixed Try.func198 (by kernel_rfl) (by kernel_rfl) (by kernel_rfl : Try.f198.ntmps = 9) (by kernel_rfl : Try.f198.body.bind (strip 9 (fun _ => [])) = some A198) hn h

end Go.Proofs.Ytaooenmkofjafaa
end

section
/- Contracts: sides and places of rules, part 3. -/
namespace Go.Proofs.Ytaooenmkofjafaa
open Go.Abs Go
set_option maxRecDepth 20000
set_option maxHeartbeats 2000000
attribute [local irreducible] PreK CondK CallK CallG CallX LoopK

theorem may_c (s : List Bool) (hs : s.length = 7) (n : Int) (h0 : -1 ≤ n) (h1 : n ≤ 5) : CallP Try.prog 198 [sideV s, iv n] (bv (s.getD (n + 1).toNat false)) := by
  refine C198 (by simp) ?_
  simp [A198]
  refine PreK.intro hs fun _ => ?_
  simp
  refine PreK.intro (by omega) fun _ => ?_
  simp
  refine PreK.intro (by omega) fun _ => ?_
  simp [hs]
  refine PreK.intro (by omega) fun _ => ?_
  have hlt : (n + 1).toNat < s.length := by omega
  simp [hlt]
end Go.Proofs.Ytaooenmkofjafaa
end

section
/- Contracts: applying rules. -/
namespace Go.Proofs.Ytaooenmkofjafaa
open Go.Abs Go
set_option maxRecDepth 20000
set_option maxHeartbeats 2000000
attribute [local irreducible] PreK CondK CallK CallG CallX LoopK

def putW (r : Rule) (w : List Int) (i : Nat) : List Int := w.take i ++ r.to ++ w.drop (i + (long r).toNat)
theorem put_c (r : Rule) (w : List Int) (i : Nat) (hi : i + (long r).toNat ≤ w.length) (hw : w.length ≤ 400) (ht : r.to.length ≤ 400) : CallP Try.prog 156 [ruleV r, ints w, iv i] (ints (putW r w i)) := by
  refine C156 (by simp) ?_
  have hl : long r = 0 ∨ long r = 1 := by unfold long; split <;> simp
  simp [A156, show i ≤ w.length by omega]
  refine CallK.intro (by simpa using long_c r) (by simp) (by simp) ?_
  simp
  have e1 : ((i : Int) + long r).toNat = i + (long r).toNat := by omega
  refine PreK.intro (by omega) fun _ => ?_
  simp
  refine PreK.intro (by omega) fun _ => ?_
  simp [e1]
  refine CallK.intro (by simpa [List.map_take, List.map_drop] using (concat_o [w.take i, r.to, w.drop (i + (long r).toNat)] (by simp) (by simp; omega)).toP) (by simp) (by simp) ?_
  simp [putW]

def shortErr (w : List Int) : Int := if 8 < w.length then 3 else 0
theorem short_c (w : List Int) : CallP Try.prog 154 [ints w] (.tup [ints (if 8 < w.length then [] else w), iv (shortErr w)]) := by
  refine C154 (by simp) ?_
  simp [A154]
  refine CondK.intro (fun h => ?_) (fun h => ?_)
  · simp at h
    have : 8 < w.length := by omega
    simp [shortErr, this]
  · simp at h
    have : ¬ 8 < w.length := by omega
    simp [shortErr, this]
end Go.Proofs.Ytaooenmkofjafaa
end

section
/- Contracts: a rule and a word. -/
namespace Go.Proofs.Ytaooenmkofjafaa
open Go.Abs Go
set_option maxRecDepth 20000
set_option maxHeartbeats 2000000
attribute [local irreducible] PreK CondK CallK CallG CallX LoopK

def wordedErr (r : Rule) (w : List Int) : Int := if ruleErr r ≠ 0 then ruleErr r else wordErr w
def Rule.small (r : Rule) : Prop := r.to.length ≤ 1000 ∧ r.left.length ≤ 1000 ∧ r.right.length ≤ 1000
theorem validate_s {r : Rule} (h : r.small) : CallP Try.prog 150 [ruleV r] (iv (ruleErr r)) :=
  validate_c r (by have := h.1; simp only [big]; omega) (by have := h.2.1; simp only [big]; omega) (by have := h.2.2; simp only [big]; omega)
theorem worded_c (r : Rule) (w : List Int) (h : r.small) (hw : w.length ≤ 1000) : CallP Try.prog 144 [ruleV r, ints w] (iv (wordedErr r w)) := by
  refine C144 (by simp) ?_
  generalize hR : wordedErr r w = R
  unfold wordedErr at hR
  simp [A144]
  refine CallX.pure (by simpa using validate_s h) (by simp) (by simp) ?_
  simp
  refine CondK.intro (fun h1 => ?_) (fun h1 => ?_)
  · simp at h1
    simp [h1] at hR
    simp [hR]
  · simp at h1
    simp [h1] at hR
    simp
    refine CallX.pure (by simpa using validateWord_c w (by simp only [big]; omega)) (by simp) (by simp) ?_
    simp [hR]
end Go.Proofs.Ytaooenmkofjafaa
end

section
/- Contracts: the places of a rule. -/
namespace Go.Proofs.Ytaooenmkofjafaa
open Go.Abs Go

theorem sideL_get (set : List Int) (n : Int) (h0 : -1 ≤ n) (h1 : n ≤ 5) : (sideL set).getD (n + 1).toNat false = mayS set n := by
  have : n = -1 ∨ n = 0 ∨ n = 1 ∨ n = 2 ∨ n = 3 ∨ n = 4 ∨ n = 5 := by omega
  rcases this with rfl | rfl | rfl | rfl | rfl | rfl | rfl <;> rfl
theorem mayS_c (set : List Int) (n : Int) (h0 : -1 ≤ n) (h1 : n ≤ 5) : CallP Try.prog 198 [sideV (sideL set), iv n] (bv (mayS set n)) := by
  rw [← sideL_get set n h0 h1]
  exact may_c (sideL set) rfl n h0 h1
/-- Whether a rule may be applied at a place. -/
def isAt (r : Rule) (w : List Int) (i : Nat) : Bool :=
  (decide (r.frm = -1) || decide (el w i = r.frm)) && mayS r.left (atW w ((i : Int) - 1)) && mayS r.right (atW w ((i : Int) + long r))
theorem atW_range (w : List Int) (hw : w.all isSound = true) (i : Int) : -1 ≤ atW w i ∧ atW w i ≤ 5 := by
  unfold atW
  split
  · rename_i h
    have hlt : i.toNat < w.length := by omega
    have := List.all_eq_true.1 hw (el w i.toNat) (by rw [el_eq w _ hlt]; exact List.getElem_mem hlt)
    simp [isSound] at this
    omega
  · omega
end Go.Proofs.Ytaooenmkofjafaa
end

section
/- Contracts: the places of a rule. -/
set_option maxRecDepth 20000
namespace Go.Proofs.Ytaooenmkofjafaa
open Go.Abs Go
set_option maxRecDepth 20000
set_option maxHeartbeats 2000000
attribute [local irreducible] PreK CondK CallK CallG CallX LoopK

def placesF (r : Rule) (w : List Int) : Nat → Nat → List Int
  | _, 0 => []
  | i, n + 1 => if isAt r w i then (i : Int) :: placesF r w (i + 1) n else placesF r w (i + 1) n
set_option maxHeartbeats 1000000 in
theorem places_c (r : Rule) (w : List Int) (h : r.small) (hw : w.length ≤ 1000) (hs : w.all isSound = true) :
    CallP Try.prog 145 [ruleV r, ints w] (ints (placesF r w 0 (w.length + 1 - (long r).toNat))) := by
  refine C145 (by simp) ?_
  generalize hR : placesF r w 0 (w.length + 1 - (long r).toNat) = R
  have hl : long r = 0 ∨ long r = 1 := by unfold long; split <;> simp
  have hb : ∀ {l : List Int}, l.length ≤ 1000 → l.length ≤ big := fun h => by simp only [big]; omega
  simp [A145]
  refine CallK.intro (by simpa using of_c r.left (hb h.2.1)) (by simp) (by simp) ?_
  simp
  refine CallK.intro (by simpa using of_c r.right (hb h.2.2)) (by simp) (by simp) ?_
  simp
  refine PreK.intro (by omega) fun _ => ?_
  simp
  refine CallX.pure (by simpa using long_c r) (by simp) (by simp) ?_
  simp
  refine PreK.intro (by omega) fun _ => ?_
  simp
  refine LoopK.by (ι := Nat × Nat × List Int) (fun i => ⟨[(23, iv i.1), (22, iv (w.length + 1 - long r)), (1, ints w), (5, .fn 198 [sideV (sideL r.left)] []), (6, .fn 198 [sideV (sideL r.right)] []), (2, .pt 2 1 0 0), (7, .sl 7 i.2.1 0 i.2.2.length)],
      [(7, some ⟨1, i.2.2.map iv, i.2.1, false⟩), (2, some ⟨4, [ruleV r], 1, true⟩)]⟩) (fun i => w.length + 1 - (long r).toNat - i.1)
    (fun i => i.1 ≤ w.length + 1 - (long r).toNat ∧ i.2.2.length ≤ i.1 ∧ i.2.2 ++ placesF r w i.1 (w.length + 1 - (long r).toNat - i.1) = R) (0, 1, []) (by simpa using hR) (by simp) ?_
  intro ⟨i, ver, acc⟩ Q' ⟨hi, ha, hc⟩ hq he hr
  dsimp only at hi ha hc
  simp
  refine CondK.intro (fun h7 => ?_) (fun h7 => ?_)
  · have h8 : i < w.length + 1 - (long r).toNat := by simp at h7; omega
    rw [show w.length + 1 - (long r).toNat - i = (w.length + 1 - (long r).toNat - (i + 1)) + 1 by omega, placesF] at hc
    simp
    have hlong : r.frm ≠ -1 → i < w.length := fun hne => by simp [long, hne] at h8; omega
    have hat1 := atW_range w hs ((i : Int) - 1)
    have hat2 := atW_range w hs ((i : Int) + long r)
    have hcl : CallP Try.prog 198 [sideV (sideL r.left), iv (atW w ((i : Int) - 1))] (bv (mayS r.left (atW w ((i : Int) - 1)))) := mayS_c _ _ hat1.1 hat1.2
    have hcr : CallP Try.prog 198 [sideV (sideL r.right), iv (atW w ((i : Int) + long r))] (bv (mayS r.right (atW w ((i : Int) + long r)))) := mayS_c _ _ hat2.1 hat2.2
    by_cases hlt : i < w.length
    · simp [hlt]
      refine PreK.intro (by omega) fun _ => ?_
      try simp 
      refine CallG.intro (fun _ => by simpa using at_c w (i - 1) hw) (by simp) (by simp) ?_
      try simp 
      refine CallG.intro (fun _ => by simpa using hcl) (by simp) (by simp) ?_
      try simp 
      refine CallG.intro (fun _ => by simpa using long_c r) (by simp) (by simp) ?_
      try simp 
      refine PreK.intro (by first | omega | (intros; first | omega | (refine ⟨by omega, ?_⟩; simp_all; done) | (simp_all; done) | (simp_all; omega))) fun _ => ?_
      try simp 
      refine CallG.intro (fun _ => by simpa using at_c w (i + long r) hw) (by simp) (by simp) ?_
      try simp 
      refine CallG.intro (fun _ => by simpa using hcr) (by simp) (by simp) ?_
      try simp 
      refine CondK.intro (fun h9 => ?_) (fun h9 => ?_)
      · have hat : isAt r w i = true := by simpa [isAt] using h9
        rw [if_pos hat] at hc
        try simp 
        refine PreK.intro (by omega) fun _ => ?_
        try simp 
        refine PreK.intro (by omega) fun _ => ?_
        try simp 
        exact hq (i + 1, ver + 1, acc ++ [(i : Int)]) _ ⟨by dsimp only; omega, by simp; omega, by simpa using hc⟩ (by dsimp only; omega) (by simp)
      · have hat : isAt r w i = false := by simpa only [isAt] using h9
        rw [if_neg (by simp [hat])] at hc
        try simp 
        refine PreK.intro (by omega) fun _ => ?_
        try simp 
        exact hq (i + 1, ver, acc) _ ⟨by dsimp only; omega, by dsimp only; omega, by simpa using hc⟩ (by dsimp only; omega) (by simp)
    · have hin : i = w.length := by omega
      subst hin
      have hf : r.frm = -1 := Decidable.byContradiction fun hne => absurd (hlong hne) hlt
      have hlc : CallP Try.prog 199 [.agg [iv (-1), ints r.to, ints r.left, ints r.right]] (iv (long r)) := by simpa [hf] using long_c r
      simp [hf]
      refine PreK.intro (by first | omega | (intros; first | omega | (refine ⟨by omega, ?_⟩; simp_all; done) | (simp_all; done) | (simp_all; omega))) fun _ => ?_
      try simp 
      refine CallG.intro (fun _ => by simpa using at_c w (w.length - 1) hw) (by simp) (by simp) ?_
      try simp 
      refine CallG.intro (fun _ => by simpa using hcl) (by simp) (by simp) ?_
      try simp 
      refine CallG.intro (fun _ => by simpa using hlc) (by simp) (by simp) ?_
      try simp 
      refine PreK.intro (by first | omega | (intros; first | omega | (refine ⟨by omega, ?_⟩; simp_all; done) | (simp_all; done) | (simp_all; omega))) fun _ => ?_
      try simp 
      refine CallG.intro (fun _ => by simpa using at_c w (w.length + long r) hw) (by simp) (by simp) ?_
      try simp 
      refine CallG.intro (fun _ => by simpa using hcr) (by simp) (by simp) ?_
      try simp 
      refine CondK.intro (fun h9 => ?_) (fun h9 => ?_)
      · have hat : isAt r w w.length = true := by simpa [isAt, hf] using h9
        rw [if_pos hat] at hc
        try simp 
        refine PreK.intro (by omega) fun _ => ?_
        try simp 
        refine PreK.intro (by omega) fun _ => ?_
        try simp 
        exact hq (w.length + 1, ver + 1, acc ++ [(w.length : Int)]) _ ⟨by dsimp only; omega, by simp; omega, by simpa using hc⟩ (by dsimp only; omega) (by simp [hf])
      · have hat : isAt r w w.length = false := by simpa only [isAt, hf, decide_true, Bool.true_or, Bool.true_and] using h9
        rw [if_neg (by simp [hat])] at hc
        try simp 
        refine PreK.intro (by omega) fun _ => ?_
        try simp 
        exact hq (w.length + 1, ver, acc) _ ⟨by dsimp only; omega, by dsimp only; omega, by simpa using hc⟩ (by dsimp only; omega) (by simp [hf])
  · have h8 : ¬ i < w.length + 1 - (long r).toNat := by simp at h7; omega
    have : w.length + 1 - (long r).toNat - i = 0 := by omega
    rw [this, placesF] at hc
    simp at hc
    apply he
    simp [hc]
end Go.Proofs.Ytaooenmkofjafaa
end

section
/- Plain models of rules, steps and grounds, and what holds of them. -/
namespace Go.Proofs.Ytaooenmkofjafaa
open Go.Abs Go

/-! ### steps -/
def placeB (r : Rule) (w : List Int) (i : Int) : Bool := decide (0 ≤ i) && (decide (i + long r ≤ w.length) && isAt r w i.toNat)
def applyM (r : Rule) (w : List Int) (p : Int) : List Int × Int :=
  if wordedErr r w ≠ 0 then ([], wordedErr r w) else if placeB r w p = false then ([], 6) else if 8 < (putW r w p.toNat).length then ([], 3) else (putW r w p.toNat, 0)

structure Move where
  step : Step
  word : List Int
deriving DecidableEq
instance : Inhabited Move := ⟨⟨⟨0, 0⟩, []⟩⟩

def moveAt (r : Rule) (w : List Int) (k : Nat) (i : Nat) : List Move := if (applyM r w i).2 = 0 then [⟨⟨k, i⟩, (applyM r w i).1⟩] else []
/-- The steps of one rule at n places from i on. -/
def movesR (r : Rule) (w : List Int) (k : Nat) : Nat → Nat → List Move
  | _, 0 => []
  | i, n + 1 => moveAt r w k i ++ movesR r w k (i + 1) n
/-- The steps of rules, the first of which has the number k. -/
def movesF (w : List Int) : Nat → List Rule → List Move
  | _, [] => []
  | k, r :: s => movesR r w k 0 (w.length + 1) ++ movesF w (k + 1) s
def movesM (s : List Rule) (w : List Int) : List Move := movesF w 0 s

def firstErr : List Rule → Int
  | [] => 0
  | r :: s => if ruleErr r ≠ 0 then ruleErr r else firstErr s
def sysErr (s : List Rule) : Int := if 6 < s.length then 3 else firstErr s
def swErr (s : List Rule) (w : List Int) : Int := if sysErr s ≠ 0 then sysErr s else wordErr w
def stepsM (s : List Rule) (w : List Int) : List Step := if swErr s w ≠ 0 then [] else (movesM s w).map (·.step)

/-! ### grounds -/
def mayAll : List Int := [-1, 0, 1, 2, 3, 4, 5]
def insideM (a b : List Int) : Bool := mayAll.all fun n => !mayS a n || mayS b n
def twoErr (r s : Rule) : Int := if ruleErr r ≠ 0 then ruleErr r else ruleErr s
def specM (r s : Rule) : Bool := decide (twoErr r s = 0) && (decide (r.frm = s.frm) && (insideM r.left s.left && insideM r.right s.right))
def lastPlace (a : Step) (rb : Rule) (b : Step) : Int := if b.place < a.place then (if 0 ≤ rb.frm then a.place + rb.to.length - 1 else a.place + rb.to.length) else a.place
def lastsM (w : List Int) (ra : Rule) (a : Step) (rb : Rule) (b : Step) : Bool := decide ((applyM ra (applyM rb w b.place).1 (lastPlace a rb b)).2 = 0)
def proM (w : List Int) (g : Int) (ra : Rule) (a : Step) (rb : Rule) (b : Step) : Bool :=
  if g = 1 then decide (a.place = b.place) && (specM ra rb && !specM rb ra)
  else if g = 2 then lastsM w ra a rb b && !lastsM w rb b ra a
  else if g = 3 then decide (a.place < b.place) else decide (b.rule < a.rule)
def decideM (w : List Int) (g : Int) (ra : Rule) (a : Step) (rb : Rule) (b : Step) : Int := if proM w g ra a rb b then 1 else if proM w g rb b ra a then -1 else 0
def beatsM (w : List Int) : List Int → Rule → Step → Rule → Step → Int
  | [], _, _, _, _ => 0
  | g :: gs, ra, a, rb, b => if decideM w g ra a rb b ≠ 0 then decideM w g ra a rb b * g else beatsM w gs ra a rb b
/-- The ground by which a step beats another one, by a system. -/
def beatsS (s : List Rule) (w gs : List Int) (a b : Step) : Int := beatsM w gs (el s a.rule.toNat) a (el s b.rule.toNat) b

theorem proM_anti (w : List Int) (g : Int) (ra : Rule) (a : Step) (rb : Rule) (b : Step) (h : proM w g ra a rb b = true) : proM w g rb b ra a = false := by
  unfold proM at *
  by_cases h1 : g = 1
  · rw [if_pos h1] at h ⊢
    simp only [Bool.and_eq_true, Bool.not_eq_true', decide_eq_true_eq] at h
    simp [h.2.1, h.2.2]
  · rw [if_neg h1] at h ⊢
    by_cases h2 : g = 2
    · rw [if_pos h2] at h ⊢
      simp only [Bool.and_eq_true, Bool.not_eq_true'] at h
      simp [h.1, h.2]
    · rw [if_neg h2] at h ⊢
      by_cases h3 : g = 3
      · rw [if_pos h3] at h ⊢
        simp at h ⊢
        omega
      · rw [if_neg h3] at h ⊢
        simp at h ⊢
        omega
theorem decideM_anti (w : List Int) (g : Int) (ra : Rule) (a : Step) (rb : Rule) (b : Step) : decideM w g rb b ra a = -decideM w g ra a rb b := by
  unfold decideM
  by_cases h : proM w g ra a rb b = true
  · simp [h, proM_anti _ _ _ _ _ _ h]
  · by_cases h2 : proM w g rb b ra a = true
    · simp [h, h2]
    · simp [h, h2]
theorem beatsM_anti (w : List Int) : ∀ (gs : List Int) (ra : Rule) (a : Step) (rb : Rule) (b : Step), beatsM w gs rb b ra a = -beatsM w gs ra a rb b
  | [], _, _, _, _ => by simp [beatsM]
  | g :: gs, ra, a, rb, b => by
    simp only [beatsM, decideM_anti w g ra a rb b, beatsM_anti w gs ra a rb b]
    by_cases h : decideM w g ra a rb b = 0
    · simp [h]
    · simp [h, Int.neg_mul]
theorem beatsS_anti (s : List Rule) (w gs : List Int) (a b : Step) : beatsS s w gs b a = -beatsS s w gs a b := beatsM_anti w gs _ _ _ _

/-! ### who wins -/
/-- Whether the candidate beats all others of a list. -/
def topOf (s : List Rule) (w gs : List Int) (l : List Step) (a : Step) : Bool := l.all fun b => decide (b = a) || decide (0 < beatsS s w gs a b)
def bestM (s : List Rule) (w gs : List Int) (l : List Step) : Option Step := l.find? (topOf s w gs l)
/-- The champion as the program looks for it: first the one that no later one has thrown over. -/
def champ (s : List Rule) (w gs : List Int) : Step → List Step → Step
  | a, [] => a
  | a, b :: l => champ s w gs (if beatsS s w gs a b ≤ 0 then b else a) l

theorem champ_keeps (s : List Rule) (w gs : List Int) (a : Step) : ∀ l : List Step, (∀ b ∈ l, b = a ∨ 0 < beatsS s w gs a b) → champ s w gs a l = a
  | [], _ => rfl
  | b :: l, h => by
    have h1 := h b (by simp)
    have h2 : (if beatsS s w gs a b ≤ 0 then b else a) = a := by
      rcases h1 with rfl | h1
      · simp
      · rw [if_neg (by omega)]
    rw [champ, h2]
    exact champ_keeps s w gs a l fun c hc => h c (by simp [hc])
theorem champ_finds (s : List Rule) (w gs : List Int) (a : Step) : ∀ (l : List Step) (c : Step), (∀ b ∈ c :: l, b = a ∨ 0 < beatsS s w gs a b) → a ∈ c :: l → champ s w gs c l = a
  | [], c, _, hm => by simp at hm; simp [champ, hm]
  | b :: l, c, h, hm => by
    rw [champ]
    by_cases hca : c = a
    · subst hca
      have := champ_keeps s w gs c (b :: l) fun x hx => h x (by simp [hx])
      rwa [champ] at this
    · have h1 : 0 < beatsS s w gs a c := by
        rcases h c (by simp) with e | h1
        · exact absurd e hca
        · exact h1
      by_cases hba : b = a
      · subst hba
        have h2 : beatsS s w gs c b ≤ 0 := by rw [beatsS_anti s w gs b c]; omega
        rw [if_pos h2]
        exact champ_keeps s w gs b l fun x hx => h x (by simp [hx])
      · refine champ_finds s w gs a l _ (fun x hx => ?_) ?_
        · simp only [List.mem_cons] at hx
          rcases hx with hx | hx
          · split at hx
            · subst hx; exact h x (by simp)
            · subst hx; exact h x (by simp)
          · exact h x (by simp [hx])
        · simp only [List.mem_cons] at hm ⊢
          rcases hm with hm | hm | hm
          · exact absurd hm.symm hca
          · exact absurd hm.symm hba
          · exact .inr hm
/-- Of two that beat all others one is the other one. -/
theorem top_one {s : List Rule} {w gs : List Int} {l : List Step} {a b : Step} (ha : topOf s w gs l a = true) (hb : topOf s w gs l b = true) (hma : a ∈ l) (hmb : b ∈ l) : a = b := by
  simp only [topOf, List.all_eq_true, Bool.or_eq_true, decide_eq_true_eq] at ha hb
  rcases ha b hmb with e | h1
  · exact e.symm
  · rcases hb a hma with e | h2
    · exact e
    · rw [beatsS_anti s w gs a b] at h2
      omega
theorem champ_mem (s : List Rule) (w gs : List Int) : ∀ (l : List Step) (c : Step), champ s w gs c l ∈ c :: l
  | [], c => by simp [champ]
  | b :: l, c => by
    rw [champ]
    have := champ_mem s w gs l (if beatsS s w gs c b ≤ 0 then b else c)
    simp only [List.mem_cons] at this ⊢
    rcases this with e | e
    · by_cases hb : beatsS s w gs c b ≤ 0
      · rw [if_pos hb] at e ⊢; exact .inr (.inl e)
      · rw [if_neg hb] at e ⊢; exact .inl e
    · exact .inr (.inr e)
theorem bestM_champ (s : List Rule) (w gs : List Int) (c : Step) (l : List Step) :
    bestM s w gs (c :: l) = if topOf s w gs (c :: l) (champ s w gs c l) = true then some (champ s w gs c l) else none := by
  have hmem := champ_mem s w gs l c
  by_cases h : topOf s w gs (c :: l) (champ s w gs c l) = true
  · rw [if_pos h]
    unfold bestM
    cases hf : (c :: l).find? (topOf s w gs (c :: l)) with
    | none =>
      have := List.find?_eq_none.1 hf _ hmem
      exact absurd h this
    | some a =>
      have h1 := List.find?_some hf
      have h2 := List.mem_of_find?_eq_some hf
      rw [top_one h1 h h2 hmem]
  · rw [if_neg h]
    unfold bestM
    rw [List.find?_eq_none]
    intro a ha hta
    have : champ s w gs c l = a := by
      refine champ_finds s w gs a l c (fun b hb => ?_) ha
      simp only [topOf, List.all_eq_true, Bool.or_eq_true, decide_eq_true_eq] at hta
      exact hta b hb
    rw [this] at h
    exact h hta

/-- The choice for a word. -/
def choiceM (s : List Rule) (w gs : List Int) : Option Choice :=
  match stepsM s w with
  | [] => none
  | c :: l => match bestM s w gs (c :: l) with
    | none => some ⟨(el (c :: l) l.length).rule, (el (c :: l) l.length).place, 0⟩
    | some a => some ⟨a.rule, a.place, match (c :: l).find? (fun b => decide (b ≠ a)) with | some b => beatsS s w gs a b | none => 0⟩
def nextW (s : List Rule) (w : List Int) (c : Choice) : List Int := (applyM (el s c.rule.toNat) w c.place).1
def orderErr (s : List Rule) (w gs : List Int) : Int := if swErr s w ≠ 0 then swErr s w else gErr gs
end Go.Proofs.Ytaooenmkofjafaa
end

section
/- Functions of the cut as the value layer reads them. (written by gen.py) -/
set_option maxRecDepth 20000
namespace Go.Proofs.Ytaooenmkofjafaa
open Go.Abs Go

def A29 : ACode :=
  (.seq (.reg [] [⟨some 6, (.assign (.const (.slice none 0 0))), 28, none⟩,
      ⟨some 7, (.assign (.const (.slice none 0 0))), 23, none⟩,
      ⟨some 8, (.assign (.const (.int .i64 0))), 29, none⟩])
    (.seq (.seq (.reg [] [⟨some 10, (.move (.tmp 0)), 22, none⟩,
      ⟨some 11, (.move (.tmp 1)), 23, none⟩,
      ⟨some 12, (.move (.tmp 2)), 23, none⟩,
      ⟨some 13, (.buildSlice 62 1 #[(0, (.tmp 12))]), 62, none⟩,
      ⟨some 14, (.call ⟨(.value (.func 107)), #[(.tmp 10), (.tmp 11), (.tmp 13)], #[22, 23, 62]⟩), 29, none⟩,
      ⟨some 9, (.assign (.tmp 14)), 29, none⟩])
    (.seq (.reg [] [⟨some 15, (.move (.tmp 9)), 29, none⟩,
      ⟨some 16, (.binOp .neq 29 (.tmp 15) (.const (.int .i64 0)) 29), 4, none⟩])
    (.cond (.tmp 16)
    (.seq (.reg [] [⟨some 17, (.move (.tmp 9)), 29, none⟩,
      ⟨some 6, (.assign (.const (.slice none 0 0))), 28, none⟩,
      ⟨some 7, (.assign (.const (.slice none 0 0))), 23, none⟩,
      ⟨some 8, (.assign (.tmp 17)), 29, none⟩])
    .ret)
    .skip)))
    (.seq (.reg [] [⟨some 18, (.move (.tmp 0)), 22, none⟩,
      ⟨some 19, (.move (.tmp 1)), 23, none⟩,
      ⟨some 20, (.move (.tmp 2)), 23, none⟩,
      ⟨some 21, (.call ⟨(.value (.func 108)), #[(.tmp 18), (.tmp 19), (.tmp 20)], #[22, 23, 23]⟩), 30, none⟩,
      ⟨some 22, (.extract (.tmp 21) 0), 28, none⟩,
      ⟨some 23, (.extract (.tmp 21) 1), 23, none⟩,
      ⟨some 24, (.extract (.tmp 21) 2), 29, none⟩,
      ⟨some 6, (.assign (.tmp 22)), 28, none⟩,
      ⟨some 7, (.assign (.tmp 23)), 23, none⟩,
      ⟨some 8, (.assign (.tmp 24)), 29, none⟩])
    .ret)))
theorem C29 {args : List AV} {r : AV} (hn : args.length ≤ 25) (h : vc Try.prog T [] A29 (Fin T [(.tmp 6), (.tmp 7), (.tmp 8)] r) ⟨envOf 0 args, []⟩) : CallP Try.prog 29 args r :=
  callP_of tok mixed Try.func29 (by kernel_rfl) (by kernel_rfl) (by kernel_rfl : Try.f29.ntmps = 25) (by kernel_rfl : Try.f29.body.bind (strip 25 (fun _ => [])) = some A29) hn h
def A38 : ACode :=
  (.seq (.reg [] [⟨some 8, (.assign (.const (.int .i64 0))), 3, none⟩,
      ⟨some 9, (.assign (.const (.int .i64 0))), 29, none⟩])
    (.seq (.seq (.reg [] [⟨some 17, (.move (.tmp 0)), 22, none⟩,
      ⟨some 18, (.move (.tmp 1)), 23, none⟩,
      ⟨some 19, (.move (.tmp 2)), 23, none⟩,
      ⟨some 20, (.buildSlice 62 1 #[(0, (.tmp 19))]), 62, none⟩,
      ⟨some 21, (.call ⟨(.value (.func 107)), #[(.tmp 17), (.tmp 18), (.tmp 20)], #[22, 23, 62]⟩), 29, none⟩,
      ⟨some 10, (.assign (.tmp 21)), 29, none⟩])
    (.seq (.reg [] [⟨some 22, (.move (.tmp 10)), 29, none⟩,
      ⟨some 23, (.binOp .neq 29 (.tmp 22) (.const (.int .i64 0)) 29), 4, none⟩])
    (.cond (.tmp 23)
    (.seq (.reg [] [⟨some 24, (.move (.tmp 10)), 29, none⟩,
      ⟨some 8, (.assign (.const (.int .i64 0))), 3, none⟩,
      ⟨some 9, (.assign (.tmp 24)), 29, none⟩])
    .ret)
    .skip)))
    (.seq (.seq (.reg [] [⟨some 25, (.move (.tmp 3)), 28, none⟩,
      ⟨some 26, (.call ⟨(.builtin .len), #[(.tmp 25)], #[28]⟩), 3, none⟩,
      ⟨some 27, (.binOp .gtr 3 (.tmp 26) (.const (.int .i64 60)) 3), 4, none⟩])
    (.cond (.tmp 27)
    (.seq (.reg [] [⟨some 8, (.assign (.const (.int .i64 0))), 3, none⟩,
      ⟨some 9, (.assign (.const (.int .i64 3))), 29, none⟩])
    .ret)
    .skip))
    (.seq (.seq (.reg [] [⟨some 28, (.move (.tmp 3)), 28, none⟩,
      ⟨some 29, (.call ⟨(.builtin .len), #[(.tmp 28)], #[28]⟩), 3, none⟩,
      ⟨some 30, (.move (.const (.int .i64 0))), 3, none⟩])
    (.block 0 (.loop (.seq (.reg [] [⟨some 31, (.binOp .lss 3 (.tmp 30) (.tmp 29) 3), 0, none⟩])
    (.seq (.cond (.tmp 31)
    .skip
    (.exit 0))
    (.seq (.block 1 (.seq (.reg [] [⟨some 32, (.move (.tmp 30)), 3, none⟩,
      ⟨some 33, (.indexAddr 28 (.tmp 28) (.tmp 30)), 0, none⟩,
      ⟨some 34, (.load 37 (.tmp 33)), 37, none⟩,
      ⟨some 12, (.alloc 37), 0, none⟩,
      ⟨some 11, (.assign (.tmp 32)), 3, none⟩,
      ⟨none, (.store 37 (.tmp 12) (.tmp 34)), 0, none⟩])
    (.seq (.reg [] [⟨some 36, (.move (.tmp 0)), 22, none⟩,
      ⟨some 37, (.move (.tmp 1)), 23, none⟩,
      ⟨some 38, (.move (.tmp 2)), 23, none⟩,
      ⟨some 39, (.call ⟨(.value (.func 111)), #[(.tmp 36), (.tmp 37), (.tmp 38)], #[22, 23, 23]⟩), 115, none⟩,
      ⟨some 35, (.move (.tmp 39)), 115, none⟩,
      ⟨some 40, (.extract (.tmp 35) 0), 37, none⟩,
      ⟨some 41, (.extract (.tmp 35) 1), 4, none⟩,
      ⟨some 13, (.alloc 37), 0, none⟩,
      ⟨none, (.store 37 (.tmp 13) (.tmp 40)), 0, none⟩,
      ⟨some 14, (.assign (.tmp 41)), 4, none⟩])
    (.seq (.seq (.reg [] [⟨some 42, (.move (.tmp 14)), 4, none⟩,
      ⟨some 43, (.unOp .not 4 (.tmp 42)), 4, none⟩,
      ⟨some 44, (.move (.tmp 43)), 4, none⟩,
      ⟨some 45, (.load 37 (.tmp 13)), 37, some (44, false)⟩,
      ⟨some 46, (.load 37 (.tmp 12)), 37, some (44, false)⟩,
      ⟨some 47, (.binOp .neq 37 (.tmp 45) (.tmp 46) 37), 4, some (44, false)⟩,
      ⟨some 48, (.pick (.tmp 44) (.const (.bool true)) (.tmp 47)), 4, none⟩])
    (.cond (.tmp 48)
    (.seq (.reg [] [⟨some 49, (.move (.tmp 11)), 3, none⟩,
      ⟨some 8, (.assign (.tmp 49)), 3, none⟩,
      ⟨some 9, (.assign (.const (.int .i64 7))), 29, none⟩])
    .ret)
    .skip))
    (.reg [] [⟨some 50, (.move (.tmp 0)), 22, none⟩,
      ⟨some 51, (.move (.tmp 1)), 23, none⟩,
      ⟨some 52, (.load 37 (.tmp 13)), 37, none⟩,
      ⟨some 53, (.call ⟨(.value (.func 117)), #[(.tmp 50), (.tmp 51), (.tmp 52)], #[22, 23, 37]⟩), 23, none⟩,
      ⟨some 1, (.assign (.tmp 53)), 23, none⟩])))))
    (.reg [] [⟨some 54, (.binOp .add 3 (.tmp 30) (.const (.int .i64 1)) 3), 3, none⟩,
      ⟨some 30, (.move (.tmp 54)), 3, none⟩])))))))
    (.seq (.seq (.reg [] [⟨some 56, (.move (.tmp 0)), 22, none⟩,
      ⟨some 57, (.move (.tmp 1)), 23, none⟩,
      ⟨some 58, (.move (.tmp 2)), 23, none⟩,
      ⟨some 59, (.call ⟨(.value (.func 111)), #[(.tmp 56), (.tmp 57), (.tmp 58)], #[22, 23, 23]⟩), 115, none⟩,
      ⟨some 55, (.move (.tmp 59)), 115, none⟩,
      ⟨some 60, (.extract (.tmp 55) 0), 37, none⟩,
      ⟨some 61, (.extract (.tmp 55) 1), 4, none⟩,
      ⟨some 15, (.alloc 37), 0, none⟩,
      ⟨none, (.store 37 (.tmp 15) (.tmp 60)), 0, none⟩,
      ⟨some 16, (.assign (.tmp 61)), 4, none⟩])
    (.seq (.reg [] [⟨some 62, (.move (.tmp 16)), 4, none⟩])
    (.cond (.tmp 62)
    (.seq (.reg [] [⟨some 63, (.move (.tmp 3)), 28, none⟩,
      ⟨some 64, (.call ⟨(.builtin .len), #[(.tmp 63)], #[28]⟩), 3, none⟩,
      ⟨some 8, (.assign (.tmp 64)), 3, none⟩,
      ⟨some 9, (.assign (.const (.int .i64 7))), 29, none⟩])
    .ret)
    .skip)))
    (.seq (.reg [] [⟨some 65, (.move (.tmp 3)), 28, none⟩,
      ⟨some 66, (.call ⟨(.builtin .len), #[(.tmp 65)], #[28]⟩), 3, none⟩,
      ⟨some 8, (.assign (.tmp 66)), 3, none⟩,
      ⟨some 9, (.assign (.const (.int .i64 0))), 29, none⟩])
    .ret))))))
theorem C38 {args : List AV} {r : AV} (hn : args.length ≤ 67) (h : vc Try.prog T [] A38 (Fin T [(.tmp 8), (.tmp 9)] r) ⟨envOf 0 args, []⟩) : CallP Try.prog 38 args r :=
  callP_of tok mixed Try.func38 (by kernel_rfl) (by kernel_rfl) (by kernel_rfl : Try.f38.ntmps = 67) (by kernel_rfl : Try.f38.body.bind (strip 67 (fun _ => [])) = some A38) hn h
def A52 : ACode :=
  (.seq (.reg [] [⟨some 2, (.assign (.const (.int .i64 0))), 29, none⟩])
    (.seq (.seq (.reg [] [⟨some 5, (.move (.tmp 0)), 23, none⟩,
      ⟨some 6, (.call ⟨(.builtin .len), #[(.tmp 5)], #[23]⟩), 3, none⟩,
      ⟨some 7, (.binOp .gtr 3 (.tmp 6) (.const (.int .i64 4)) 3), 4, none⟩])
    (.cond (.tmp 7)
    (.seq (.reg [] [⟨some 2, (.assign (.const (.int .i64 3))), 29, none⟩])
    .ret)
    .skip))
    (.seq (.seq (.reg [] [⟨some 8, (.move (.tmp 0)), 23, none⟩,
      ⟨some 9, (.call ⟨(.value (.func 132)), #[(.tmp 8), (.func 133)], #[23, 139]⟩), 4, none⟩])
    (.cond (.tmp 9)
    (.seq (.reg [] [⟨some 2, (.assign (.const (.int .i64 1))), 29, none⟩])
    .ret)
    .skip))
    (.seq (.seq (.reg [] [⟨some 10, (.move (.tmp 0)), 23, none⟩,
      ⟨some 11, (.call ⟨(.builtin .len), #[(.tmp 10)], #[23]⟩), 3, none⟩,
      ⟨some 12, (.move (.const (.int .i64 0))), 3, none⟩])
    (.block 0 (.loop (.seq (.reg [] [⟨some 13, (.binOp .lss 3 (.tmp 12) (.tmp 11) 3), 0, none⟩])
    (.seq (.cond (.tmp 13)
    .skip
    (.exit 0))
    (.seq (.block 1 (.seq (.reg [] [⟨some 14, (.move (.tmp 12)), 3, none⟩,
      ⟨some 15, (.indexAddr 23 (.tmp 10) (.tmp 12)), 0, none⟩,
      ⟨some 16, (.load 3 (.tmp 15)), 3, none⟩,
      ⟨some 3, (.assign (.tmp 14)), 3, none⟩,
      ⟨some 4, (.assign (.tmp 16)), 3, none⟩])
    (.seq (.reg [] [⟨some 17, (.move (.tmp 0)), 23, none⟩,
      ⟨some 18, (.move (.tmp 3)), 3, none⟩,
      ⟨some 19, (.slice 23 (.tmp 17) none (some (.tmp 18)) none), 23, none⟩,
      ⟨some 20, (.move (.tmp 4)), 3, none⟩,
      ⟨some 21, (.call ⟨(.value (.func 134)), #[(.tmp 19), (.tmp 20)], #[23, 3]⟩), 4, none⟩])
    (.cond (.tmp 21)
    (.seq (.reg [] [⟨some 2, (.assign (.const (.int .i64 5))), 29, none⟩])
    .ret)
    .skip))))
    (.reg [] [⟨some 22, (.binOp .add 3 (.tmp 12) (.const (.int .i64 1)) 3), 3, none⟩,
      ⟨some 12, (.move (.tmp 22)), 3, none⟩])))))))
    (.seq (.reg [] [⟨some 2, (.assign (.const (.int .i64 0))), 29, none⟩])
    .ret)))))
theorem C52 {args : List AV} {r : AV} (hn : args.length ≤ 23) (h : vc Try.prog T [] A52 (Fin T [(.tmp 2)] r) ⟨envOf 0 args, []⟩) : CallP Try.prog 52 args r :=
  callP_of tok mixed Try.func52 (by kernel_rfl) (by kernel_rfl) (by kernel_rfl : Try.f52.ntmps = 23) (by kernel_rfl : Try.f52.body.bind (strip 23 (fun _ => [])) = some A52) hn h
def A28 : ACode :=
  (.seq (.reg [] [⟨some 0, (.assign (.const (.bool false))), 4, none⟩])
    (.seq (.reg [] [⟨some 5, (.buildSlice 23 1 #[(0, (.const (.int .i64 1)))]), 23, none⟩,
      ⟨some 6, (.build 72 #[(0, (.const (.int .i64 0))), (1, (.tmp 5))]), 72, none⟩,
      ⟨some 7, (.buildSlice 23 1 #[(0, (.const (.int .i64 2)))]), 23, none⟩,
      ⟨some 8, (.build 72 #[(0, (.const (.int .i64 0))), (1, (.tmp 7))]), 72, none⟩,
      ⟨some 9, (.buildSlice 22 2 #[(0, (.tmp 6)), (1, (.tmp 8))]), 22, none⟩,
      ⟨some 1, (.assign (.tmp 9)), 22, none⟩])
    (.seq (.reg [] [⟨some 11, (.move (.tmp 1)), 22, none⟩,
      ⟨some 12, (.buildSlice 23 2 #[(0, (.const (.int .i64 0))), (1, (.const (.int .i64 0)))]), 23, none⟩,
      ⟨some 13, (.buildSlice 23 2 #[(0, (.const (.int .i64 3))), (1, (.const (.int .i64 4)))]), 23, none⟩,
      ⟨some 14, (.call ⟨(.value (.func 29)), #[(.tmp 11), (.tmp 12), (.tmp 13)], #[22, 23, 23]⟩), 30, none⟩,
      ⟨some 10, (.move (.tmp 14)), 30, none⟩,
      ⟨some 15, (.extract (.tmp 10) 0), 28, none⟩,
      ⟨some 16, (.extract (.tmp 10) 1), 23, none⟩,
      ⟨some 17, (.extract (.tmp 10) 2), 29, none⟩,
      ⟨some 2, (.assign (.tmp 15)), 28, none⟩,
      ⟨some 3, (.assign (.tmp 16)), 23, none⟩,
      ⟨some 4, (.assign (.tmp 17)), 29, none⟩])
    (.seq (.reg [] [⟨some 18, (.move (.tmp 4)), 29, none⟩,
      ⟨some 19, (.binOp .eql 29 (.tmp 18) (.const (.int .i64 0)) 29), 4, none⟩,
      ⟨some 20, (.move (.tmp 19)), 4, none⟩,
      ⟨some 21, (.move (.tmp 2)), 28, some (20, true)⟩,
      ⟨some 22, (.build 37 #[(0, (.const (.int .i64 1))), (1, (.const (.int .i64 0))), (2, (.const (.int .i64 4)))]), 37, some (20, true)⟩,
      ⟨some 23, (.build 37 #[(0, (.const (.int .i64 1))), (1, (.const (.int .i64 1))), (2, (.const (.int .i64 4)))]), 37, some (20, true)⟩,
      ⟨some 24, (.buildSlice 28 2 #[(0, (.tmp 22)), (1, (.tmp 23))]), 28, some (20, true)⟩,
      ⟨some 25, (.call ⟨(.value (.func 32)), #[(.tmp 21), (.tmp 24)], #[28, 28]⟩), 4, some (20, true)⟩,
      ⟨some 26, (.pick (.tmp 20) (.tmp 25) (.const (.bool false))), 4, none⟩,
      ⟨some 27, (.move (.tmp 26)), 4, none⟩,
      ⟨some 28, (.move (.tmp 3)), 23, some (27, true)⟩,
      ⟨some 29, (.buildSlice 23 2 #[(0, (.const (.int .i64 2))), (1, (.const (.int .i64 2)))]), 23, some (27, true)⟩,
      ⟨some 30, (.call ⟨(.value (.func 33)), #[(.tmp 28), (.tmp 29)], #[23, 23]⟩), 4, some (27, true)⟩,
      ⟨some 31, (.pick (.tmp 27) (.tmp 30) (.const (.bool false))), 4, none⟩,
      ⟨some 0, (.assign (.tmp 31)), 4, none⟩])
    .ret))))
theorem C28 {args : List AV} {r : AV} (hn : args.length ≤ 32) (h : vc Try.prog T [] A28 (Fin T [(.tmp 0)] r) ⟨envOf 0 args, []⟩) : CallP Try.prog 28 args r :=
  callP_of tok mixed Try.func28 (by kernel_rfl) (by kernel_rfl) (by kernel_rfl : Try.f28.ntmps = 32) (by kernel_rfl : Try.f28.body.bind (strip 32 (fun _ => [])) = some A28) hn h
def A32 : ACode :=
  (.seq (.reg [] [⟨some 4, (.assign (.const (.bool false))), 4, none⟩])
    (.seq (.seq (.reg [] [⟨some 6, (.move (.tmp 0)), 28, none⟩,
      ⟨some 7, (.call ⟨(.builtin .len), #[(.tmp 6)], #[28]⟩), 3, none⟩,
      ⟨some 8, (.move (.tmp 1)), 28, none⟩,
      ⟨some 9, (.call ⟨(.builtin .len), #[(.tmp 8)], #[28]⟩), 3, none⟩,
      ⟨some 10, (.binOp .neq 3 (.tmp 7) (.tmp 9) 3), 4, none⟩])
    (.cond (.tmp 10)
    (.seq (.reg [] [⟨some 4, (.assign (.const (.bool false))), 4, none⟩])
    .ret)
    .skip))
    (.seq (.seq (.reg [] [⟨some 5, (.assign (.const (.int .i64 0))), 3, none⟩])
    (.block 0 (.loop (.seq (.seq (.reg [] [⟨some 11, (.move (.tmp 5)), 3, none⟩,
      ⟨some 12, (.move (.tmp 0)), 28, none⟩,
      ⟨some 13, (.call ⟨(.builtin .len), #[(.tmp 12)], #[28]⟩), 3, none⟩,
      ⟨some 14, (.binOp .lss 3 (.tmp 11) (.tmp 13) 3), 4, none⟩])
    (.cond (.tmp 14)
    .skip
    (.exit 0)))
    (.seq (.block 1 (.seq (.draw [] [⟨some 17, (.move (.tmp 0)), 28, none⟩,
      ⟨some 18, (.move (.tmp 5)), 3, none⟩,
      ⟨some 19, (.indexAddr 28 (.tmp 17) (.tmp 18)), 0, none⟩,
      ⟨some 20, (.load 37 (.tmp 19)), 37, none⟩,
      ⟨some 21, (.move (.tmp 1)), 28, none⟩,
      ⟨some 22, (.move (.tmp 5)), 3, none⟩,
      ⟨some 23, (.indexAddr 28 (.tmp 21) (.tmp 22)), 0, none⟩,
      ⟨some 24, (.load 37 (.tmp 23)), 37, none⟩,
      ⟨some 25, (.binOp .neq 37 (.tmp 20) (.tmp 24) 37), 4, none⟩] [(0, 1), (0, 4), (1, 4), (2, 4), (3, 4), (0, 5), (1, 5), (2, 5), (3, 5), (4, 5), (0, 6), (1, 6), (2, 6), (3, 6), (0, 7), (1, 7), (2, 7), (3, 7)])
    (.cond (.tmp 25)
    (.seq (.reg [] [⟨some 4, (.assign (.const (.bool false))), 4, none⟩])
    .ret)
    .skip)))
    (.reg [] [⟨some 15, (.move (.tmp 5)), 3, none⟩,
      ⟨some 16, (.binOp .add 3 (.tmp 15) (.const (.int .i64 1)) 3), 3, none⟩,
      ⟨some 5, (.assign (.tmp 16)), 3, none⟩]))))))
    (.seq (.reg [] [⟨some 4, (.assign (.const (.bool true))), 4, none⟩])
    .ret))))
theorem C32 {args : List AV} {r : AV} (hn : args.length ≤ 26) (h : vc Try.prog T [] A32 (Fin T [(.tmp 4)] r) ⟨envOf 0 args, []⟩) : CallP Try.prog 32 args r :=
  callP_of tok mixed Try.func32 (by kernel_rfl) (by kernel_rfl) (by kernel_rfl : Try.f32.ntmps = 26) (by kernel_rfl : Try.f32.body.bind (strip 26 (fun _ => [])) = some A32) hn h
def A83 : ACode :=
  (.seq (.reg [] [⟨some 2, (.assign (.const (.int .i64 0))), 29, none⟩])
    (.seq (.seq (.reg [] [⟨some 6, (.move (.tmp 0)), 22, none⟩,
      ⟨some 7, (.call ⟨(.builtin .len), #[(.tmp 6)], #[22]⟩), 3, none⟩,
      ⟨some 8, (.binOp .gtr 3 (.tmp 7) (.const (.int .i64 6)) 3), 4, none⟩])
    (.cond (.tmp 8)
    (.seq (.reg [] [⟨some 2, (.assign (.const (.int .i64 3))), 29, none⟩])
    .ret)
    .skip))
    (.seq (.seq (.reg [] [⟨some 9, (.move (.tmp 0)), 22, none⟩,
      ⟨some 10, (.call ⟨(.builtin .len), #[(.tmp 9)], #[22]⟩), 3, none⟩,
      ⟨some 11, (.move (.const (.int .i64 0))), 3, none⟩])
    (.block 0 (.loop (.seq (.reg [] [⟨some 12, (.binOp .lss 3 (.tmp 11) (.tmp 10) 3), 0, none⟩])
    (.seq (.cond (.tmp 12)
    .skip
    (.exit 0))
    (.seq (.block 1 (.seq (.reg [] [⟨some 13, (.indexAddr 22 (.tmp 9) (.tmp 11)), 0, none⟩,
      ⟨some 14, (.load 72 (.tmp 13)), 72, none⟩,
      ⟨some 4, (.alloc 72), 0, none⟩,
      ⟨none, (.store 72 (.tmp 4) (.tmp 14)), 0, none⟩])
    (.seq (.reg [] [⟨some 15, (.load 72 (.tmp 4)), 72, none⟩,
      ⟨some 16, (.call ⟨(.value (.func 150)), #[(.tmp 15)], #[72]⟩), 29, none⟩,
      ⟨some 5, (.assign (.tmp 16)), 29, none⟩])
    (.seq (.reg [] [⟨some 17, (.move (.tmp 5)), 29, none⟩,
      ⟨some 18, (.binOp .neq 29 (.tmp 17) (.const (.int .i64 0)) 29), 4, none⟩])
    (.cond (.tmp 18)
    (.seq (.reg [] [⟨some 19, (.move (.tmp 5)), 29, none⟩,
      ⟨some 2, (.assign (.tmp 19)), 29, none⟩])
    .ret)
    .skip)))))
    (.reg [] [⟨some 20, (.binOp .add 3 (.tmp 11) (.const (.int .i64 1)) 3), 3, none⟩,
      ⟨some 11, (.move (.tmp 20)), 3, none⟩])))))))
    (.seq (.reg [] [⟨some 2, (.assign (.const (.int .i64 0))), 29, none⟩])
    .ret))))
theorem C83 {args : List AV} {r : AV} (hn : args.length ≤ 21) (h : vc Try.prog T [] A83 (Fin T [(.tmp 2)] r) ⟨envOf 0 args, []⟩) : CallP Try.prog 83 args r :=
  callP_of tok mixed Try.func83 (by kernel_rfl) (by kernel_rfl) (by kernel_rfl : Try.f83.ntmps = 21) (by kernel_rfl : Try.f83.body.bind (strip 21 (fun _ => [])) = some A83) hn h
def A80 : ACode :=
  (.seq (.reg [] [⟨some 4, (.assign (.const (.slice none 0 0))), 88, none⟩,
      ⟨some 5, (.assign (.const (.int .i64 0))), 29, none⟩])
    (.seq (.seq (.reg [] [⟨some 10, (.move (.tmp 0)), 22, none⟩,
      ⟨some 11, (.move (.tmp 1)), 23, none⟩,
      ⟨some 12, (.buildSlice 62 1 #[(0, (.tmp 11))]), 62, none⟩,
      ⟨some 13, (.call ⟨(.value (.func 140)), #[(.tmp 10), (.tmp 12)], #[22, 62]⟩), 29, none⟩,
      ⟨some 6, (.assign (.tmp 13)), 29, none⟩])
    (.seq (.reg [] [⟨some 14, (.move (.tmp 6)), 29, none⟩,
      ⟨some 15, (.binOp .neq 29 (.tmp 14) (.const (.int .i64 0)) 29), 4, none⟩])
    (.cond (.tmp 15)
    (.seq (.reg [] [⟨some 16, (.move (.tmp 6)), 29, none⟩,
      ⟨some 4, (.assign (.const (.slice none 0 0))), 88, none⟩,
      ⟨some 5, (.assign (.tmp 16)), 29, none⟩])
    .ret)
    .skip)))
    (.seq (.reg [] [⟨some 7, (.assign (.const (.slice none 0 0))), 88, none⟩])
    (.seq (.seq (.reg [] [⟨some 17, (.move (.tmp 0)), 22, none⟩,
      ⟨some 18, (.move (.tmp 1)), 23, none⟩,
      ⟨some 19, (.call ⟨(.value (.func 141)), #[(.tmp 17), (.tmp 18)], #[22, 23]⟩), 143, none⟩,
      ⟨some 20, (.call ⟨(.builtin .len), #[(.tmp 19)], #[143]⟩), 3, none⟩,
      ⟨some 21, (.move (.const (.int .i64 0))), 3, none⟩])
    (.block 0 (.loop (.seq (.reg [] [⟨some 22, (.binOp .lss 3 (.tmp 21) (.tmp 20) 3), 0, none⟩])
    (.seq (.cond (.tmp 22)
    .skip
    (.exit 0))
    (.seq (.block 1 (.seq (.reg [] [⟨some 23, (.indexAddr 143 (.tmp 19) (.tmp 21)), 0, none⟩,
      ⟨some 24, (.load 172 (.tmp 23)), 172, none⟩,
      ⟨some 9, (.alloc 172), 0, none⟩,
      ⟨none, (.store 172 (.tmp 9) (.tmp 24)), 0, none⟩])
    (.reg [] [⟨some 25, (.move (.tmp 7)), 88, none⟩,
      ⟨some 26, (.fieldAddr 172 (.tmp 9) 0), 0, none⟩,
      ⟨some 27, (.load 46 (.tmp 26)), 46, none⟩,
      ⟨some 28, (.buildSlice 88 1 #[(0, (.tmp 27))]), 88, none⟩,
      ⟨some 29, (.call ⟨(.builtin .append), #[(.tmp 25), (.tmp 28)], #[88, 88]⟩), 88, none⟩,
      ⟨some 7, (.assign (.tmp 29)), 88, none⟩])))
    (.reg [] [⟨some 30, (.binOp .add 3 (.tmp 21) (.const (.int .i64 1)) 3), 3, none⟩,
      ⟨some 21, (.move (.tmp 30)), 3, none⟩])))))))
    (.seq (.reg [] [⟨some 31, (.move (.tmp 7)), 88, none⟩,
      ⟨some 4, (.assign (.tmp 31)), 88, none⟩,
      ⟨some 5, (.assign (.const (.int .i64 0))), 29, none⟩])
    .ret)))))
theorem C80 {args : List AV} {r : AV} (hn : args.length ≤ 32) (h : vc Try.prog T [] A80 (Fin T [(.tmp 4), (.tmp 5)] r) ⟨envOf 0 args, []⟩) : CallP Try.prog 80 args r :=
  callP_of tok mixed Try.func80 (by kernel_rfl) (by kernel_rfl) (by kernel_rfl : Try.f80.ntmps = 32) (by kernel_rfl : Try.f80.body.bind (strip 32 (fun _ => [])) = some A80) hn h
def A141 : ACode :=
  (.seq (.reg [] [⟨some 4, (.assign (.const (.slice none 0 0))), 143, none⟩])
    (.seq (.reg [] [⟨some 5, (.assign (.const (.slice none 0 0))), 143, none⟩])
    (.seq (.seq (.reg [] [⟨some 14, (.move (.tmp 0)), 22, none⟩,
      ⟨some 15, (.call ⟨(.builtin .len), #[(.tmp 14)], #[22]⟩), 3, none⟩,
      ⟨some 16, (.move (.const (.int .i64 0))), 3, none⟩])
    (.block 0 (.loop (.seq (.reg [] [⟨some 17, (.binOp .lss 3 (.tmp 16) (.tmp 15) 3), 0, none⟩])
    (.seq (.cond (.tmp 17)
    .skip
    (.exit 0))
    (.seq (.block 1 (.seq (.reg [] [⟨some 18, (.move (.tmp 16)), 3, none⟩,
      ⟨some 19, (.indexAddr 22 (.tmp 14) (.tmp 16)), 0, none⟩,
      ⟨some 20, (.load 72 (.tmp 19)), 72, none⟩,
      ⟨some 7, (.alloc 72), 0, none⟩,
      ⟨some 6, (.assign (.tmp 18)), 3, none⟩,
      ⟨none, (.store 72 (.tmp 7) (.tmp 20)), 0, none⟩])
    (.seq (.reg [] [⟨some 22, (.load 72 (.tmp 7)), 72, none⟩,
      ⟨some 23, (.move (.tmp 1)), 23, none⟩,
      ⟨some 24, (.call ⟨(.value (.func 60)), #[(.tmp 22), (.tmp 23)], #[72, 23]⟩), 32, none⟩,
      ⟨some 21, (.move (.tmp 24)), 32, none⟩,
      ⟨some 25, (.extract (.tmp 21) 0), 23, none⟩,
      ⟨some 26, (.extract (.tmp 21) 1), 29, none⟩,
      ⟨some 8, (.assign (.tmp 25)), 23, none⟩,
      ⟨some 9, (.assign (.tmp 26)), 29, none⟩])
    (.seq (.reg [] [⟨some 27, (.move (.tmp 8)), 23, none⟩,
      ⟨some 28, (.call ⟨(.builtin .len), #[(.tmp 27)], #[23]⟩), 3, none⟩,
      ⟨some 29, (.move (.const (.int .i64 0))), 3, none⟩])
    (.block 2 (.loop (.seq (.reg [] [⟨some 30, (.binOp .lss 3 (.tmp 29) (.tmp 28) 3), 0, none⟩])
    (.seq (.cond (.tmp 30)
    .skip
    (.exit 2))
    (.seq (.block 3 (.seq (.reg [] [⟨some 31, (.indexAddr 23 (.tmp 27) (.tmp 29)), 0, none⟩,
      ⟨some 32, (.load 3 (.tmp 31)), 3, none⟩,
      ⟨some 11, (.assign (.tmp 32)), 3, none⟩])
    (.seq (.reg [] [⟨some 34, (.load 72 (.tmp 7)), 72, none⟩,
      ⟨some 35, (.move (.tmp 1)), 23, none⟩,
      ⟨some 36, (.move (.tmp 11)), 3, none⟩,
      ⟨some 37, (.call ⟨(.value (.func 70)), #[(.tmp 34), (.tmp 35), (.tmp 36)], #[72, 23, 3]⟩), 32, none⟩,
      ⟨some 33, (.move (.tmp 37)), 32, none⟩,
      ⟨some 38, (.extract (.tmp 33) 0), 23, none⟩,
      ⟨some 39, (.extract (.tmp 33) 1), 29, none⟩,
      ⟨some 12, (.assign (.tmp 38)), 23, none⟩,
      ⟨some 13, (.assign (.tmp 39)), 29, none⟩])
    (.seq (.reg [] [⟨some 40, (.move (.tmp 13)), 29, none⟩,
      ⟨some 41, (.binOp .eql 29 (.tmp 40) (.const (.int .i64 0)) 29), 4, none⟩])
    (.cond (.tmp 41)
    (.reg [] [⟨some 42, (.move (.tmp 5)), 143, none⟩,
      ⟨some 43, (.move (.tmp 6)), 3, none⟩,
      ⟨some 44, (.move (.tmp 11)), 3, none⟩,
      ⟨some 45, (.build 46 #[(0, (.tmp 43)), (1, (.tmp 44))]), 46, none⟩,
      ⟨some 46, (.move (.tmp 12)), 23, none⟩,
      ⟨some 47, (.build 172 #[(0, (.tmp 45)), (1, (.tmp 46))]), 172, none⟩,
      ⟨some 48, (.buildSlice 143 1 #[(0, (.tmp 47))]), 143, none⟩,
      ⟨some 49, (.call ⟨(.builtin .append), #[(.tmp 42), (.tmp 48)], #[143, 143]⟩), 143, none⟩,
      ⟨some 5, (.assign (.tmp 49)), 143, none⟩])
    .skip)))))
    (.reg [] [⟨some 50, (.binOp .add 3 (.tmp 29) (.const (.int .i64 1)) 3), 3, none⟩,
      ⟨some 29, (.move (.tmp 50)), 3, none⟩]))))))))))
    (.reg [] [⟨some 51, (.binOp .add 3 (.tmp 16) (.const (.int .i64 1)) 3), 3, none⟩,
      ⟨some 16, (.move (.tmp 51)), 3, none⟩])))))))
    (.seq (.reg [] [⟨some 52, (.move (.tmp 5)), 143, none⟩,
      ⟨some 4, (.assign (.tmp 52)), 143, none⟩])
    .ret))))
theorem C141 {args : List AV} {r : AV} (hn : args.length ≤ 53) (h : vc Try.prog T [] A141 (Fin T [(.tmp 4)] r) ⟨envOf 0 args, []⟩) : CallP Try.prog 141 args r :=
  callP_of tok mixed Try.func141 (by kernel_rfl) (by kernel_rfl) (by kernel_rfl : Try.f141.ntmps = 53) (by kernel_rfl : Try.f141.body.bind (strip 53 (fun _ => [])) = some A141) hn h
def A140 : ACode :=
  (.seq (.reg [] [⟨some 4, (.assign (.const (.int .i64 0))), 29, none⟩])
    (.seq (.seq (.reg [] [⟨some 9, (.move (.tmp 0)), 22, none⟩,
      ⟨some 10, (.call ⟨(.value (.func 83)), #[(.tmp 9)], #[22]⟩), 29, none⟩,
      ⟨some 5, (.assign (.tmp 10)), 29, none⟩])
    (.seq (.reg [] [⟨some 11, (.move (.tmp 5)), 29, none⟩,
      ⟨some 12, (.binOp .neq 29 (.tmp 11) (.const (.int .i64 0)) 29), 4, none⟩])
    (.cond (.tmp 12)
    (.seq (.reg [] [⟨some 13, (.move (.tmp 5)), 29, none⟩,
      ⟨some 4, (.assign (.tmp 13)), 29, none⟩])
    .ret)
    .skip)))
    (.seq (.seq (.reg [] [⟨some 14, (.move (.tmp 1)), 62, none⟩,
      ⟨some 15, (.call ⟨(.builtin .len), #[(.tmp 14)], #[62]⟩), 3, none⟩,
      ⟨some 16, (.move (.const (.int .i64 0))), 3, none⟩])
    (.block 0 (.loop (.seq (.reg [] [⟨some 17, (.binOp .lss 3 (.tmp 16) (.tmp 15) 3), 0, none⟩])
    (.seq (.cond (.tmp 17)
    .skip
    (.exit 0))
    (.seq (.block 1 (.seq (.reg [] [⟨some 18, (.indexAddr 62 (.tmp 14) (.tmp 16)), 0, none⟩,
      ⟨some 19, (.load 23 (.tmp 18)), 23, none⟩,
      ⟨some 7, (.assign (.tmp 19)), 23, none⟩])
    (.seq (.reg [] [⟨some 20, (.move (.tmp 7)), 23, none⟩,
      ⟨some 21, (.call ⟨(.value (.func 135)), #[(.tmp 20)], #[23]⟩), 29, none⟩,
      ⟨some 8, (.assign (.tmp 21)), 29, none⟩])
    (.seq (.reg [] [⟨some 22, (.move (.tmp 8)), 29, none⟩,
      ⟨some 23, (.binOp .neq 29 (.tmp 22) (.const (.int .i64 0)) 29), 4, none⟩])
    (.cond (.tmp 23)
    (.seq (.reg [] [⟨some 24, (.move (.tmp 8)), 29, none⟩,
      ⟨some 4, (.assign (.tmp 24)), 29, none⟩])
    .ret)
    .skip)))))
    (.reg [] [⟨some 25, (.binOp .add 3 (.tmp 16) (.const (.int .i64 1)) 3), 3, none⟩,
      ⟨some 16, (.move (.tmp 25)), 3, none⟩])))))))
    (.seq (.reg [] [⟨some 4, (.assign (.const (.int .i64 0))), 29, none⟩])
    .ret))))
theorem C140 {args : List AV} {r : AV} (hn : args.length ≤ 26) (h : vc Try.prog T [] A140 (Fin T [(.tmp 4)] r) ⟨envOf 0 args, []⟩) : CallP Try.prog 140 args r :=
  callP_of tok mixed Try.func140 (by kernel_rfl) (by kernel_rfl) (by kernel_rfl : Try.f140.ntmps = 26) (by kernel_rfl : Try.f140.body.bind (strip 26 (fun _ => [])) = some A140) hn h
def A107 : ACode :=
  (.seq (.reg [] [⟨some 6, (.assign (.const (.int .i64 0))), 29, none⟩])
    (.seq (.seq (.reg [] [⟨some 12, (.move (.tmp 0)), 22, none⟩,
      ⟨some 13, (.call ⟨(.value (.func 83)), #[(.tmp 12)], #[22]⟩), 29, none⟩,
      ⟨some 7, (.assign (.tmp 13)), 29, none⟩])
    (.seq (.reg [] [⟨some 14, (.move (.tmp 7)), 29, none⟩,
      ⟨some 15, (.binOp .neq 29 (.tmp 14) (.const (.int .i64 0)) 29), 4, none⟩])
    (.cond (.tmp 15)
    (.seq (.reg [] [⟨some 16, (.move (.tmp 7)), 29, none⟩,
      ⟨some 6, (.assign (.tmp 16)), 29, none⟩])
    .ret)
    .skip)))
    (.seq (.seq (.reg [] [⟨some 17, (.move (.tmp 1)), 23, none⟩,
      ⟨some 18, (.call ⟨(.value (.func 135)), #[(.tmp 17)], #[23]⟩), 29, none⟩,
      ⟨some 8, (.assign (.tmp 18)), 29, none⟩])
    (.seq (.reg [] [⟨some 19, (.move (.tmp 8)), 29, none⟩,
      ⟨some 20, (.binOp .neq 29 (.tmp 19) (.const (.int .i64 0)) 29), 4, none⟩])
    (.cond (.tmp 20)
    (.seq (.reg [] [⟨some 21, (.move (.tmp 8)), 29, none⟩,
      ⟨some 6, (.assign (.tmp 21)), 29, none⟩])
    .ret)
    .skip)))
    (.seq (.seq (.reg [] [⟨some 22, (.move (.tmp 2)), 62, none⟩,
      ⟨some 23, (.call ⟨(.builtin .len), #[(.tmp 22)], #[62]⟩), 3, none⟩,
      ⟨some 24, (.move (.const (.int .i64 0))), 3, none⟩])
    (.block 0 (.loop (.seq (.reg [] [⟨some 25, (.binOp .lss 3 (.tmp 24) (.tmp 23) 3), 0, none⟩])
    (.seq (.cond (.tmp 25)
    .skip
    (.exit 0))
    (.seq (.block 1 (.seq (.reg [] [⟨some 26, (.indexAddr 62 (.tmp 22) (.tmp 24)), 0, none⟩,
      ⟨some 27, (.load 23 (.tmp 26)), 23, none⟩,
      ⟨some 10, (.assign (.tmp 27)), 23, none⟩])
    (.seq (.reg [] [⟨some 28, (.move (.tmp 10)), 23, none⟩,
      ⟨some 29, (.call ⟨(.value (.func 52)), #[(.tmp 28)], #[23]⟩), 29, none⟩,
      ⟨some 11, (.assign (.tmp 29)), 29, none⟩])
    (.seq (.reg [] [⟨some 30, (.move (.tmp 11)), 29, none⟩,
      ⟨some 31, (.binOp .neq 29 (.tmp 30) (.const (.int .i64 0)) 29), 4, none⟩])
    (.cond (.tmp 31)
    (.seq (.reg [] [⟨some 32, (.move (.tmp 11)), 29, none⟩,
      ⟨some 6, (.assign (.tmp 32)), 29, none⟩])
    .ret)
    .skip)))))
    (.reg [] [⟨some 33, (.binOp .add 3 (.tmp 24) (.const (.int .i64 1)) 3), 3, none⟩,
      ⟨some 24, (.move (.tmp 33)), 3, none⟩])))))))
    (.seq (.reg [] [⟨some 6, (.assign (.const (.int .i64 0))), 29, none⟩])
    .ret)))))
theorem C107 {args : List AV} {r : AV} (hn : args.length ≤ 34) (h : vc Try.prog T [] A107 (Fin T [(.tmp 6)] r) ⟨envOf 0 args, []⟩) : CallP Try.prog 107 args r :=
  callP_of tok mixed Try.func107 (by kernel_rfl) (by kernel_rfl) (by kernel_rfl : Try.f107.ntmps = 34) (by kernel_rfl : Try.f107.body.bind (strip 34 (fun _ => [])) = some A107) hn h
def A108 : ACode :=
  (.seq (.reg [] [⟨some 6, (.assign (.const (.slice none 0 0))), 28, none⟩,
      ⟨some 7, (.assign (.const (.slice none 0 0))), 23, none⟩,
      ⟨some 8, (.assign (.const (.int .i64 0))), 29, none⟩])
    (.seq (.reg [] [⟨some 12, (.move (.tmp 1)), 23, none⟩,
      ⟨some 13, (.call ⟨(.value (.func 152)), #[(.tmp 12)], #[23]⟩), 23, none⟩,
      ⟨some 1, (.assign (.tmp 13)), 23, none⟩])
    (.seq (.reg [] [⟨some 9, (.assign (.const (.slice none 0 0))), 28, none⟩])
    (.block 0 (.loop (.block 1 (.seq (.reg [] [⟨some 15, (.move (.tmp 0)), 22, none⟩,
      ⟨some 16, (.move (.tmp 1)), 23, none⟩,
      ⟨some 17, (.move (.tmp 2)), 23, none⟩,
      ⟨some 18, (.call ⟨(.value (.func 111)), #[(.tmp 15), (.tmp 16), (.tmp 17)], #[22, 23, 23]⟩), 115, none⟩,
      ⟨some 14, (.move (.tmp 18)), 115, none⟩,
      ⟨some 19, (.extract (.tmp 14) 0), 37, none⟩,
      ⟨some 20, (.extract (.tmp 14) 1), 4, none⟩,
      ⟨some 10, (.alloc 37), 0, none⟩,
      ⟨none, (.store 37 (.tmp 10) (.tmp 19)), 0, none⟩,
      ⟨some 11, (.assign (.tmp 20)), 4, none⟩])
    (.seq (.seq (.reg [] [⟨some 21, (.move (.tmp 11)), 4, none⟩,
      ⟨some 22, (.unOp .not 4 (.tmp 21)), 4, none⟩])
    (.cond (.tmp 22)
    (.seq (.reg [] [⟨some 23, (.move (.tmp 9)), 28, none⟩,
      ⟨some 24, (.move (.tmp 1)), 23, none⟩,
      ⟨some 6, (.assign (.tmp 23)), 28, none⟩,
      ⟨some 7, (.assign (.tmp 24)), 23, none⟩,
      ⟨some 8, (.assign (.const (.int .i64 0))), 29, none⟩])
    .ret)
    .skip))
    (.seq (.seq (.reg [] [⟨some 25, (.move (.tmp 9)), 28, none⟩,
      ⟨some 26, (.call ⟨(.builtin .len), #[(.tmp 25)], #[28]⟩), 3, none⟩,
      ⟨some 27, (.binOp .eql 3 (.tmp 26) (.const (.int .i64 60)) 3), 4, none⟩])
    (.cond (.tmp 27)
    (.seq (.reg [] [⟨some 6, (.assign (.const (.slice none 0 0))), 28, none⟩,
      ⟨some 7, (.assign (.const (.slice none 0 0))), 23, none⟩,
      ⟨some 8, (.assign (.const (.int .i64 3))), 29, none⟩])
    .ret)
    .skip))
    (.seq (.reg [] [⟨some 28, (.move (.tmp 9)), 28, none⟩,
      ⟨some 29, (.load 37 (.tmp 10)), 37, none⟩,
      ⟨some 30, (.buildSlice 28 1 #[(0, (.tmp 29))]), 28, none⟩,
      ⟨some 31, (.call ⟨(.builtin .append), #[(.tmp 28), (.tmp 30)], #[28, 28]⟩), 28, none⟩,
      ⟨some 9, (.assign (.tmp 31)), 28, none⟩])
    (.reg [] [⟨some 32, (.move (.tmp 0)), 22, none⟩,
      ⟨some 33, (.move (.tmp 1)), 23, none⟩,
      ⟨some 34, (.load 37 (.tmp 10)), 37, none⟩,
      ⟨some 35, (.call ⟨(.value (.func 117)), #[(.tmp 32), (.tmp 33), (.tmp 34)], #[22, 23, 37]⟩), 23, none⟩,
      ⟨some 1, (.assign (.tmp 35)), 23, none⟩])))))))))))
theorem C108 {args : List AV} {r : AV} (hn : args.length ≤ 36) (h : vc Try.prog T [] A108 (Fin T [(.tmp 6), (.tmp 7), (.tmp 8)] r) ⟨envOf 0 args, []⟩) : CallP Try.prog 108 args r :=
  callP_of tok mixed Try.func108 (by kernel_rfl) (by kernel_rfl) (by kernel_rfl : Try.f108.ntmps = 36) (by kernel_rfl : Try.f108.body.bind (strip 36 (fun _ => [])) = some A108) hn h
def A111 : ACode :=
  (.seq (.reg [] [⟨some 6, (.alloc 37), 0, none⟩,
      ⟨some 7, (.assign (.const (.bool false))), 4, none⟩])
    (.seq (.reg [] [⟨some 13, (.move (.tmp 0)), 22, none⟩,
      ⟨some 14, (.move (.tmp 1)), 23, none⟩,
      ⟨some 15, (.call ⟨(.value (.func 113)), #[(.tmp 13), (.tmp 14)], #[22, 23]⟩), 117, none⟩,
      ⟨some 8, (.assign (.tmp 15)), 117, none⟩])
    (.seq (.seq (.reg [] [⟨some 16, (.move (.tmp 8)), 117, none⟩,
      ⟨some 17, (.call ⟨(.builtin .len), #[(.tmp 16)], #[117]⟩), 3, none⟩,
      ⟨some 18, (.binOp .eql 3 (.tmp 17) (.const (.int .i64 0)) 3), 4, none⟩])
    (.cond (.tmp 18)
    (.seq (.reg [] [⟨some 19, (.build 37 #[]), 37, none⟩,
      ⟨none, (.store 37 (.tmp 6) (.tmp 19)), 0, none⟩,
      ⟨some 7, (.assign (.const (.bool false))), 4, none⟩])
    .ret)
    .skip))
    (.seq (.reg [] [⟨some 21, (.move (.tmp 1)), 23, none⟩,
      ⟨some 22, (.move (.tmp 2)), 23, none⟩,
      ⟨some 23, (.move (.tmp 8)), 117, none⟩,
      ⟨some 24, (.call ⟨(.value (.func 114)), #[(.tmp 21), (.tmp 22), (.tmp 23)], #[23, 23, 117]⟩), 121, none⟩,
      ⟨some 20, (.move (.tmp 24)), 121, none⟩,
      ⟨some 25, (.extract (.tmp 20) 0), 120, none⟩,
      ⟨some 26, (.extract (.tmp 20) 1), 4, none⟩,
      ⟨some 9, (.alloc 120), 0, none⟩,
      ⟨none, (.store 120 (.tmp 9) (.tmp 25)), 0, none⟩,
      ⟨some 10, (.assign (.tmp 26)), 4, none⟩])
    (.seq (.reg [] [⟨some 11, (.assign (.const (.int .i64 0))), 3, none⟩])
    (.seq (.seq (.reg [] [⟨some 27, (.move (.tmp 10)), 4, none⟩,
      ⟨some 28, (.unOp .not 4 (.tmp 27)), 4, none⟩])
    (.cond (.tmp 28)
    (.reg [] [⟨some 29, (.move (.tmp 8)), 117, none⟩,
      ⟨some 30, (.move (.tmp 8)), 117, none⟩,
      ⟨some 31, (.call ⟨(.builtin .len), #[(.tmp 30)], #[117]⟩), 3, none⟩,
      ⟨some 32, (.binOp .sub 3 (.tmp 31) (.const (.int .i64 1)) 3), 3, none⟩,
      ⟨some 33, (.indexAddr 117 (.tmp 29) (.tmp 32)), 0, none⟩,
      ⟨some 34, (.load 120 (.tmp 33)), 120, none⟩,
      ⟨none, (.store 120 (.tmp 9) (.tmp 34)), 0, none⟩])
    (.seq (.reg [] [⟨some 35, (.move (.tmp 8)), 117, none⟩,
      ⟨some 36, (.makeFunc (.func 185) #[] #[(.tmp 9)]), 191, none⟩,
      ⟨some 37, (.call ⟨(.value (.func 184)), #[(.tmp 35), (.tmp 36)], #[117, 191]⟩), 3, none⟩,
      ⟨some 12, (.assign (.tmp 37)), 3, none⟩])
    (.seq (.reg [] [⟨some 38, (.move (.tmp 12)), 3, none⟩,
      ⟨some 39, (.binOp .geq 3 (.tmp 38) (.const (.int .i64 0)) 3), 4, none⟩])
    (.cond (.tmp 39)
    (.draw [] [⟨some 40, (.move (.tmp 1)), 23, none⟩,
      ⟨some 41, (.move (.tmp 2)), 23, none⟩,
      ⟨some 42, (.load 120 (.tmp 9)), 120, none⟩,
      ⟨some 43, (.move (.tmp 8)), 117, none⟩,
      ⟨some 44, (.move (.tmp 12)), 3, none⟩,
      ⟨some 45, (.indexAddr 117 (.tmp 43) (.tmp 44)), 0, none⟩,
      ⟨some 46, (.load 120 (.tmp 45)), 120, none⟩,
      ⟨some 47, (.call ⟨(.value (.func 123)), #[(.tmp 40), (.tmp 41), (.tmp 42), (.tmp 46)], #[23, 23, 120, 120]⟩), 3, none⟩,
      ⟨some 11, (.assign (.tmp 47)), 3, none⟩] [(0, 1), (0, 2), (1, 2), (0, 3), (1, 3), (2, 3), (0, 4), (1, 4), (2, 4), (3, 4), (0, 5), (1, 5), (2, 5), (0, 6), (1, 6), (2, 6)])
    .skip)))))
    (.seq (.reg [] [⟨some 48, (.fieldAddr 120 (.tmp 9) 0), 0, none⟩,
      ⟨some 49, (.fieldAddr 46 (.tmp 48) 0), 0, none⟩,
      ⟨some 50, (.load 3 (.tmp 49)), 3, none⟩,
      ⟨some 51, (.fieldAddr 120 (.tmp 9) 0), 0, none⟩,
      ⟨some 52, (.fieldAddr 46 (.tmp 51) 1), 0, none⟩,
      ⟨some 53, (.load 3 (.tmp 52)), 3, none⟩,
      ⟨some 54, (.move (.tmp 11)), 3, none⟩,
      ⟨some 55, (.build 37 #[(0, (.tmp 50)), (1, (.tmp 53)), (2, (.tmp 54))]), 37, none⟩,
      ⟨none, (.store 37 (.tmp 6) (.tmp 55)), 0, none⟩,
      ⟨some 7, (.assign (.const (.bool true))), 4, none⟩])
    .ret)))))))
theorem C111 {args : List AV} {r : AV} (hn : args.length ≤ 56) (h : vc Try.prog T [] A111 (Fin T [(.cell 6 37), (.tmp 7)] r) ⟨envOf 0 args, []⟩) : CallP Try.prog 111 args r :=
  callP_of tok mixed Try.func111 (by kernel_rfl) (by kernel_rfl) (by kernel_rfl : Try.f111.ntmps = 56) (by kernel_rfl : Try.f111.body.bind (strip 56 (fun _ => [])) = some A111) hn h
def A113 : ACode :=
  (.seq (.reg [] [⟨some 4, (.assign (.const (.slice none 0 0))), 117, none⟩])
    (.seq (.reg [] [⟨some 5, (.assign (.const (.slice none 0 0))), 117, none⟩])
    (.seq (.reg [] [⟨some 11, (.move (.tmp 0)), 22, none⟩,
      ⟨some 12, (.move (.tmp 1)), 23, none⟩,
      ⟨some 13, (.call ⟨(.value (.func 80)), #[(.tmp 11), (.tmp 12)], #[22, 23]⟩), 89, none⟩,
      ⟨some 10, (.move (.tmp 13)), 89, none⟩,
      ⟨some 14, (.extract (.tmp 10) 0), 88, none⟩,
      ⟨some 15, (.extract (.tmp 10) 1), 29, none⟩,
      ⟨some 6, (.assign (.tmp 14)), 88, none⟩,
      ⟨some 7, (.assign (.tmp 15)), 29, none⟩])
    (.seq (.seq (.reg [] [⟨some 16, (.move (.tmp 6)), 88, none⟩,
      ⟨some 17, (.call ⟨(.builtin .len), #[(.tmp 16)], #[88]⟩), 3, none⟩,
      ⟨some 18, (.move (.const (.int .i64 0))), 3, none⟩])
    (.block 0 (.loop (.seq (.reg [] [⟨some 19, (.binOp .lss 3 (.tmp 18) (.tmp 17) 3), 0, none⟩])
    (.seq (.cond (.tmp 19)
    .skip
    (.exit 0))
    (.seq (.block 1 (.seq (.reg [] [⟨some 20, (.indexAddr 88 (.tmp 16) (.tmp 18)), 0, none⟩,
      ⟨some 21, (.load 46 (.tmp 20)), 46, none⟩,
      ⟨some 9, (.alloc 46), 0, none⟩,
      ⟨none, (.store 46 (.tmp 9) (.tmp 21)), 0, none⟩])
    (.draw [] [⟨some 22, (.move (.tmp 5)), 117, none⟩,
      ⟨some 23, (.load 46 (.tmp 9)), 46, none⟩,
      ⟨some 24, (.move (.tmp 0)), 22, none⟩,
      ⟨some 25, (.fieldAddr 46 (.tmp 9) 0), 0, none⟩,
      ⟨some 26, (.load 3 (.tmp 25)), 3, none⟩,
      ⟨some 27, (.indexAddr 22 (.tmp 24) (.tmp 26)), 0, none⟩,
      ⟨some 28, (.load 72 (.tmp 27)), 72, none⟩,
      ⟨some 29, (.build 120 #[(0, (.tmp 23)), (1, (.tmp 28))]), 120, none⟩,
      ⟨some 30, (.buildSlice 117 1 #[(0, (.tmp 29))]), 117, none⟩,
      ⟨some 31, (.call ⟨(.builtin .append), #[(.tmp 22), (.tmp 30)], #[117, 117]⟩), 117, none⟩,
      ⟨some 5, (.assign (.tmp 31)), 117, none⟩] [(0, 1), (0, 2), (1, 2), (0, 3), (1, 3), (2, 3), (0, 4), (1, 4), (2, 4), (0, 5), (1, 5), (0, 6), (1, 6), (0, 7), (0, 8)])))
    (.reg [] [⟨some 32, (.binOp .add 3 (.tmp 18) (.const (.int .i64 1)) 3), 3, none⟩,
      ⟨some 18, (.move (.tmp 32)), 3, none⟩])))))))
    (.seq (.reg [] [⟨some 33, (.move (.tmp 5)), 117, none⟩,
      ⟨some 4, (.assign (.tmp 33)), 117, none⟩])
    .ret)))))
theorem C113 {args : List AV} {r : AV} (hn : args.length ≤ 34) (h : vc Try.prog T [] A113 (Fin T [(.tmp 4)] r) ⟨envOf 0 args, []⟩) : CallP Try.prog 113 args r :=
  callP_of tok mixed Try.func113 (by kernel_rfl) (by kernel_rfl) (by kernel_rfl : Try.f113.ntmps = 34) (by kernel_rfl : Try.f113.body.bind (strip 34 (fun _ => [])) = some A113) hn h
def A114 : ACode :=
  (.seq (.reg [] [⟨some 6, (.alloc 120), 0, none⟩,
      ⟨some 7, (.assign (.const (.bool false))), 4, none⟩])
    (.seq (.reg [] [⟨some 13, (.move (.tmp 2)), 117, none⟩,
      ⟨some 14, (.indexAddr 117 (.tmp 13) (.const (.int .i64 0))), 0, none⟩,
      ⟨some 15, (.load 120 (.tmp 14)), 120, none⟩,
      ⟨some 8, (.alloc 120), 0, none⟩,
      ⟨none, (.store 120 (.tmp 8) (.tmp 15)), 0, none⟩])
    (.seq (.seq (.reg [] [⟨some 16, (.move (.tmp 2)), 117, none⟩,
      ⟨some 17, (.slice 117 (.tmp 16) (some (.const (.int .i64 1))) none none), 117, none⟩,
      ⟨some 18, (.call ⟨(.builtin .len), #[(.tmp 17)], #[117]⟩), 3, none⟩,
      ⟨some 19, (.move (.const (.int .i64 0))), 3, none⟩])
    (.block 0 (.loop (.seq (.reg [] [⟨some 20, (.binOp .lss 3 (.tmp 19) (.tmp 18) 3), 0, none⟩])
    (.seq (.cond (.tmp 20)
    .skip
    (.exit 0))
    (.seq (.block 1 (.seq (.reg [] [⟨some 21, (.indexAddr 117 (.tmp 17) (.tmp 19)), 0, none⟩,
      ⟨some 22, (.load 120 (.tmp 21)), 120, none⟩,
      ⟨some 10, (.alloc 120), 0, none⟩,
      ⟨none, (.store 120 (.tmp 10) (.tmp 22)), 0, none⟩])
    (.seq (.reg [] [⟨some 23, (.move (.tmp 0)), 23, none⟩,
      ⟨some 24, (.move (.tmp 1)), 23, none⟩,
      ⟨some 25, (.load 120 (.tmp 8)), 120, none⟩,
      ⟨some 26, (.load 120 (.tmp 10)), 120, none⟩,
      ⟨some 27, (.call ⟨(.value (.func 123)), #[(.tmp 23), (.tmp 24), (.tmp 25), (.tmp 26)], #[23, 23, 120, 120]⟩), 3, none⟩,
      ⟨some 28, (.binOp .leq 3 (.tmp 27) (.const (.int .i64 0)) 3), 4, none⟩])
    (.cond (.tmp 28)
    (.reg [] [⟨some 29, (.load 120 (.tmp 10)), 120, none⟩,
      ⟨none, (.store 120 (.tmp 8) (.tmp 29)), 0, none⟩])
    .skip))))
    (.reg [] [⟨some 30, (.binOp .add 3 (.tmp 19) (.const (.int .i64 1)) 3), 3, none⟩,
      ⟨some 19, (.move (.tmp 30)), 3, none⟩])))))))
    (.seq (.seq (.reg [] [⟨some 31, (.move (.tmp 2)), 117, none⟩,
      ⟨some 32, (.call ⟨(.builtin .len), #[(.tmp 31)], #[117]⟩), 3, none⟩,
      ⟨some 33, (.move (.const (.int .i64 0))), 3, none⟩])
    (.block 2 (.loop (.seq (.reg [] [⟨some 34, (.binOp .lss 3 (.tmp 33) (.tmp 32) 3), 0, none⟩])
    (.seq (.cond (.tmp 34)
    .skip
    (.exit 2))
    (.seq (.block 3 (.seq (.reg [] [⟨some 35, (.indexAddr 117 (.tmp 31) (.tmp 33)), 0, none⟩,
      ⟨some 36, (.load 120 (.tmp 35)), 120, none⟩,
      ⟨some 12, (.alloc 120), 0, none⟩,
      ⟨none, (.store 120 (.tmp 12) (.tmp 36)), 0, none⟩])
    (.seq (.reg [] [⟨some 37, (.fieldAddr 120 (.tmp 12) 0), 0, none⟩,
      ⟨some 38, (.load 46 (.tmp 37)), 46, none⟩,
      ⟨some 39, (.fieldAddr 120 (.tmp 8) 0), 0, none⟩,
      ⟨some 40, (.load 46 (.tmp 39)), 46, none⟩,
      ⟨some 41, (.binOp .neq 46 (.tmp 38) (.tmp 40) 46), 4, none⟩,
      ⟨some 42, (.move (.tmp 41)), 4, none⟩,
      ⟨some 43, (.move (.tmp 0)), 23, some (42, true)⟩,
      ⟨some 44, (.move (.tmp 1)), 23, some (42, true)⟩,
      ⟨some 45, (.load 120 (.tmp 8)), 120, some (42, true)⟩,
      ⟨some 46, (.load 120 (.tmp 12)), 120, some (42, true)⟩,
      ⟨some 47, (.call ⟨(.value (.func 123)), #[(.tmp 43), (.tmp 44), (.tmp 45), (.tmp 46)], #[23, 23, 120, 120]⟩), 3, some (42, true)⟩,
      ⟨some 48, (.binOp .leq 3 (.tmp 47) (.const (.int .i64 0)) 3), 4, some (42, true)⟩,
      ⟨some 49, (.pick (.tmp 42) (.tmp 48) (.const (.bool false))), 4, none⟩])
    (.cond (.tmp 49)
    (.seq (.reg [] [⟨some 50, (.build 120 #[]), 120, none⟩,
      ⟨none, (.store 120 (.tmp 6) (.tmp 50)), 0, none⟩,
      ⟨some 7, (.assign (.const (.bool false))), 4, none⟩])
    .ret)
    .skip))))
    (.reg [] [⟨some 51, (.binOp .add 3 (.tmp 33) (.const (.int .i64 1)) 3), 3, none⟩,
      ⟨some 33, (.move (.tmp 51)), 3, none⟩])))))))
    (.seq (.reg [] [⟨some 52, (.load 120 (.tmp 8)), 120, none⟩,
      ⟨none, (.store 120 (.tmp 6) (.tmp 52)), 0, none⟩,
      ⟨some 7, (.assign (.const (.bool true))), 4, none⟩])
    .ret)))))
theorem C114 {args : List AV} {r : AV} (hn : args.length ≤ 53) (h : vc Try.prog T [] A114 (Fin T [(.cell 6 120), (.tmp 7)] r) ⟨envOf 0 args, []⟩) : CallP Try.prog 114 args r :=
  callP_of tok mixed Try.func114 (by kernel_rfl) (by kernel_rfl) (by kernel_rfl : Try.f114.ntmps = 53) (by kernel_rfl : Try.f114.body.bind (strip 53 (fun _ => [])) = some A114) hn h
def A117 : ACode :=
  (.seq (.reg [] [⟨some 5, (.box 37 (.tmp 2)), 0, none⟩,
      ⟨some 6, (.assign (.const (.slice none 0 0))), 23, none⟩])
    (.seq (.draw [] [⟨some 10, (.move (.tmp 0)), 22, none⟩,
      ⟨some 11, (.fieldAddr 37 (.tmp 5) 0), 0, none⟩,
      ⟨some 12, (.load 3 (.tmp 11)), 3, none⟩,
      ⟨some 13, (.indexAddr 22 (.tmp 10) (.tmp 12)), 0, none⟩,
      ⟨some 14, (.load 72 (.tmp 13)), 72, none⟩,
      ⟨some 15, (.move (.tmp 1)), 23, none⟩,
      ⟨some 16, (.fieldAddr 37 (.tmp 5) 1), 0, none⟩,
      ⟨some 17, (.load 3 (.tmp 16)), 3, none⟩,
      ⟨some 18, (.call ⟨(.value (.func 70)), #[(.tmp 14), (.tmp 15), (.tmp 17)], #[72, 23, 3]⟩), 32, none⟩,
      ⟨some 9, (.move (.tmp 18)), 32, none⟩,
      ⟨some 19, (.extract (.tmp 9) 0), 23, none⟩,
      ⟨some 20, (.extract (.tmp 9) 1), 29, none⟩,
      ⟨some 7, (.assign (.tmp 19)), 23, none⟩,
      ⟨some 8, (.assign (.tmp 20)), 29, none⟩] [(0, 1), (0, 2), (0, 5), (1, 5), (2, 5), (3, 5), (4, 5), (0, 6), (1, 6), (2, 6), (3, 6), (4, 6), (5, 6), (0, 7), (1, 7), (2, 7), (3, 7), (4, 7), (5, 7), (10, 11), (11, 12)])
    (.seq (.reg [] [⟨some 21, (.move (.tmp 7)), 23, none⟩,
      ⟨some 6, (.assign (.tmp 21)), 23, none⟩])
    .ret)))
theorem C117 {args : List AV} {r : AV} (hn : args.length ≤ 22) (h : vc Try.prog T [] A117 (Fin T [(.tmp 6)] r) ⟨envOf 0 args, []⟩) : CallP Try.prog 117 args r :=
  callP_of tok mixed Try.func117 (by kernel_rfl) (by kernel_rfl) (by kernel_rfl : Try.f117.ntmps = 22) (by kernel_rfl : Try.f117.body.bind (strip 22 (fun _ => [])) = some A117) hn h
def A119 : ACode :=
  (.seq (.reg [] [⟨some 4, (.box 120 (.tmp 1)), 0, none⟩,
      ⟨some 5, (.box 120 (.tmp 2)), 0, none⟩,
      ⟨some 6, (.assign (.const (.bool false))), 4, none⟩])
    (.seq (.reg [] [⟨some 13, (.fieldAddr 120 (.tmp 5) 1), 0, none⟩,
      ⟨some 14, (.load 72 (.tmp 13)), 72, none⟩,
      ⟨some 15, (.move (.tmp 0)), 23, none⟩,
      ⟨some 16, (.fieldAddr 120 (.tmp 5) 0), 0, none⟩,
      ⟨some 17, (.fieldAddr 46 (.tmp 16) 1), 0, none⟩,
      ⟨some 18, (.load 3 (.tmp 17)), 3, none⟩,
      ⟨some 19, (.call ⟨(.value (.func 70)), #[(.tmp 14), (.tmp 15), (.tmp 18)], #[72, 23, 3]⟩), 32, none⟩,
      ⟨some 12, (.move (.tmp 19)), 32, none⟩,
      ⟨some 20, (.extract (.tmp 12) 0), 23, none⟩,
      ⟨some 21, (.extract (.tmp 12) 1), 29, none⟩,
      ⟨some 7, (.assign (.tmp 20)), 23, none⟩,
      ⟨some 8, (.assign (.tmp 21)), 29, none⟩])
    (.seq (.reg [] [⟨some 22, (.fieldAddr 120 (.tmp 4) 0), 0, none⟩,
      ⟨some 23, (.fieldAddr 46 (.tmp 22) 1), 0, none⟩,
      ⟨some 24, (.load 3 (.tmp 23)), 3, none⟩,
      ⟨some 9, (.assign (.tmp 24)), 3, none⟩])
    (.seq (.seq (.reg [] [⟨some 25, (.fieldAddr 120 (.tmp 5) 0), 0, none⟩,
      ⟨some 26, (.fieldAddr 46 (.tmp 25) 1), 0, none⟩,
      ⟨some 27, (.load 3 (.tmp 26)), 3, none⟩,
      ⟨some 28, (.fieldAddr 120 (.tmp 4) 0), 0, none⟩,
      ⟨some 29, (.fieldAddr 46 (.tmp 28) 1), 0, none⟩,
      ⟨some 30, (.load 3 (.tmp 29)), 3, none⟩,
      ⟨some 31, (.binOp .lss 3 (.tmp 27) (.tmp 30) 3), 4, none⟩])
    (.cond (.tmp 31)
    (.seq (.reg [] [⟨some 32, (.move (.tmp 9)), 3, none⟩,
      ⟨some 33, (.fieldAddr 120 (.tmp 5) 1), 0, none⟩,
      ⟨some 34, (.fieldAddr 72 (.tmp 33) 1), 0, none⟩,
      ⟨some 35, (.load 23 (.tmp 34)), 23, none⟩,
      ⟨some 36, (.call ⟨(.builtin .len), #[(.tmp 35)], #[23]⟩), 3, none⟩,
      ⟨some 37, (.binOp .add 3 (.tmp 32) (.tmp 36) 3), 3, none⟩,
      ⟨some 9, (.assign (.tmp 37)), 3, none⟩])
    (.seq (.reg [] [⟨some 38, (.fieldAddr 120 (.tmp 5) 1), 0, none⟩,
      ⟨some 39, (.fieldAddr 72 (.tmp 38) 0), 0, none⟩,
      ⟨some 40, (.load 3 (.tmp 39)), 3, none⟩,
      ⟨some 41, (.binOp .geq 3 (.tmp 40) (.const (.int .i64 0)) 3), 4, none⟩])
    (.cond (.tmp 41)
    (.reg [] [⟨some 42, (.move (.tmp 9)), 3, none⟩,
      ⟨some 43, (.binOp .sub 3 (.tmp 42) (.const (.int .i64 1)) 3), 3, none⟩,
      ⟨some 9, (.assign (.tmp 43)), 3, none⟩])
    .skip)))
    .skip))
    (.seq (.reg [] [⟨some 45, (.fieldAddr 120 (.tmp 4) 1), 0, none⟩,
      ⟨some 46, (.load 72 (.tmp 45)), 72, none⟩,
      ⟨some 47, (.move (.tmp 7)), 23, none⟩,
      ⟨some 48, (.move (.tmp 9)), 3, none⟩,
      ⟨some 49, (.call ⟨(.value (.func 70)), #[(.tmp 46), (.tmp 47), (.tmp 48)], #[72, 23, 3]⟩), 32, none⟩,
      ⟨some 44, (.move (.tmp 49)), 32, none⟩,
      ⟨some 50, (.extract (.tmp 44) 0), 23, none⟩,
      ⟨some 51, (.extract (.tmp 44) 1), 29, none⟩,
      ⟨some 10, (.assign (.tmp 50)), 23, none⟩,
      ⟨some 11, (.assign (.tmp 51)), 29, none⟩])
    (.seq (.reg [] [⟨some 52, (.move (.tmp 11)), 29, none⟩,
      ⟨some 53, (.binOp .eql 29 (.tmp 52) (.const (.int .i64 0)) 29), 4, none⟩,
      ⟨some 6, (.assign (.tmp 53)), 4, none⟩])
    .ret))))))
theorem C119 {args : List AV} {r : AV} (hn : args.length ≤ 54) (h : vc Try.prog T [] A119 (Fin T [(.tmp 6)] r) ⟨envOf 0 args, []⟩) : CallP Try.prog 119 args r :=
  callP_of tok mixed Try.func119 (by kernel_rfl) (by kernel_rfl) (by kernel_rfl : Try.f119.ntmps = 54) (by kernel_rfl : Try.f119.body.bind (strip 54 (fun _ => [])) = some A119) hn h
def A123 : ACode :=
  (.seq (.reg [] [⟨some 6, (.box 120 (.tmp 2)), 0, none⟩,
      ⟨some 7, (.box 120 (.tmp 3)), 0, none⟩,
      ⟨some 8, (.assign (.const (.int .i64 0))), 3, none⟩])
    (.seq (.seq (.reg [] [⟨some 12, (.move (.tmp 1)), 23, none⟩,
      ⟨some 13, (.call ⟨(.builtin .len), #[(.tmp 12)], #[23]⟩), 3, none⟩,
      ⟨some 14, (.move (.const (.int .i64 0))), 3, none⟩])
    (.block 0 (.loop (.seq (.reg [] [⟨some 15, (.binOp .lss 3 (.tmp 14) (.tmp 13) 3), 0, none⟩])
    (.seq (.cond (.tmp 15)
    .skip
    (.exit 0))
    (.seq (.block 1 (.seq (.reg [] [⟨some 16, (.indexAddr 23 (.tmp 12) (.tmp 14)), 0, none⟩,
      ⟨some 17, (.load 3 (.tmp 16)), 3, none⟩,
      ⟨some 10, (.assign (.tmp 17)), 3, none⟩])
    (.seq (.reg [] [⟨some 18, (.move (.tmp 0)), 23, none⟩,
      ⟨some 19, (.move (.tmp 10)), 3, none⟩,
      ⟨some 20, (.load 120 (.tmp 6)), 120, none⟩,
      ⟨some 21, (.load 120 (.tmp 7)), 120, none⟩,
      ⟨some 22, (.call ⟨(.value (.func 125)), #[(.tmp 18), (.tmp 19), (.tmp 20), (.tmp 21)], #[23, 3, 120, 120]⟩), 3, none⟩,
      ⟨some 11, (.assign (.tmp 22)), 3, none⟩])
    (.seq (.reg [] [⟨some 23, (.move (.tmp 11)), 3, none⟩,
      ⟨some 24, (.binOp .neq 3 (.tmp 23) (.const (.int .i64 0)) 3), 4, none⟩])
    (.cond (.tmp 24)
    (.seq (.reg [] [⟨some 25, (.move (.tmp 11)), 3, none⟩,
      ⟨some 26, (.move (.tmp 10)), 3, none⟩,
      ⟨some 27, (.binOp .mul 3 (.tmp 25) (.tmp 26) 3), 3, none⟩,
      ⟨some 8, (.assign (.tmp 27)), 3, none⟩])
    .ret)
    .skip)))))
    (.reg [] [⟨some 28, (.binOp .add 3 (.tmp 14) (.const (.int .i64 1)) 3), 3, none⟩,
      ⟨some 14, (.move (.tmp 28)), 3, none⟩])))))))
    (.seq (.reg [] [⟨some 8, (.assign (.const (.int .i64 0))), 3, none⟩])
    .ret)))
theorem C123 {args : List AV} {r : AV} (hn : args.length ≤ 29) (h : vc Try.prog T [] A123 (Fin T [(.tmp 8)] r) ⟨envOf 0 args, []⟩) : CallP Try.prog 123 args r :=
  callP_of tok mixed Try.func123 (by kernel_rfl) (by kernel_rfl) (by kernel_rfl : Try.f123.ntmps = 29) (by kernel_rfl : Try.f123.body.bind (strip 29 (fun _ => [])) = some A123) hn h
def A125 : ACode :=
  (.seq (.reg [] [⟨some 6, (.box 120 (.tmp 2)), 0, none⟩,
      ⟨some 7, (.box 120 (.tmp 3)), 0, none⟩,
      ⟨some 8, (.assign (.const (.int .i64 0))), 3, none⟩])
    (.seq (.reg [] [⟨some 10, (.call ⟨(.value (.func 188)), #[], #[]⟩), 195, none⟩,
      ⟨some 11, (.move (.tmp 1)), 3, none⟩,
      ⟨some 12, (.binOp .sub 3 (.tmp 11) (.const (.int .i64 1)) 3), 3, none⟩,
      ⟨some 13, (.index 195 (.tmp 10) (.tmp 12)), 194, none⟩,
      ⟨some 9, (.alloc 194), 0, none⟩,
      ⟨none, (.store 194 (.tmp 9) (.tmp 13)), 0, none⟩])
    (.seq (.block 0 (.seq (.reg [] [⟨some 15, (.fieldAddr 194 (.tmp 9) 0), 0, none⟩,
      ⟨some 16, (.load 128 (.tmp 15)), 128, none⟩,
      ⟨some 17, (.move (.tmp 0)), 23, none⟩,
      ⟨some 18, (.load 120 (.tmp 6)), 120, none⟩,
      ⟨some 19, (.load 120 (.tmp 7)), 120, none⟩,
      ⟨some 20, (.call ⟨(.value (.tmp 16)), #[(.tmp 17), (.tmp 18), (.tmp 19)], #[23, 120, 120]⟩), 4, none⟩,
      ⟨some 14, (.assign (.tmp 20)), 4, none⟩])
    (.cond (.tmp 14)
    (.seq (.reg [] [⟨some 8, (.assign (.const (.int .i64 1))), 3, none⟩])
    .ret)
    (.seq (.reg [] [⟨some 22, (.fieldAddr 194 (.tmp 9) 0), 0, none⟩,
      ⟨some 23, (.load 128 (.tmp 22)), 128, none⟩,
      ⟨some 24, (.move (.tmp 0)), 23, none⟩,
      ⟨some 25, (.load 120 (.tmp 7)), 120, none⟩,
      ⟨some 26, (.load 120 (.tmp 6)), 120, none⟩,
      ⟨some 27, (.call ⟨(.value (.tmp 23)), #[(.tmp 24), (.tmp 25), (.tmp 26)], #[23, 120, 120]⟩), 4, none⟩,
      ⟨some 21, (.assign (.tmp 27)), 4, none⟩])
    (.cond (.tmp 21)
    (.seq (.reg [] [⟨some 8, (.assign (.const (.int .i64 (-1)))), 3, none⟩])
    .ret)
    .skip)))))
    (.seq (.reg [] [⟨some 8, (.assign (.const (.int .i64 0))), 3, none⟩])
    .ret))))
theorem C125 {args : List AV} {r : AV} (hn : args.length ≤ 28) (h : vc Try.prog T [] A125 (Fin T [(.tmp 8)] r) ⟨envOf 0 args, []⟩) : CallP Try.prog 125 args r :=
  callP_of tok mixed Try.func125 (by kernel_rfl) (by kernel_rfl) (by kernel_rfl : Try.f125.ntmps = 28) (by kernel_rfl : Try.f125.body.bind (strip 28 (fun _ => [])) = some A125) hn h
end Go.Proofs.Ytaooenmkofjafaa
end

section
/- Contracts: rule.Places, rule.Apply and the checks of systems. -/
namespace Go.Proofs.Ytaooenmkofjafaa
open Go.Abs Go
set_option maxRecDepth 20000
set_option maxHeartbeats 2000000
attribute [local irreducible] PreK CondK CallK CallG CallX LoopK

theorem wordErr_zero {w : List Int} (h : wordErr w = 0) : w.length ≤ 8 ∧ w.all isSound = true := by
  unfold wordErr at h
  by_cases h1 : 8 < w.length
  · simp [h1] at h
  · rw [if_neg h1] at h
    by_cases h2 : w.any (fun x => !isSound x) = true
    · rw [if_pos h2] at h; cases h
    · refine ⟨by omega, ?_⟩
      rw [List.all_eq_true]
      intro x hx
      simp only [List.any_eq_true, not_exists, not_and] at h2
      simpa using h2 x hx
theorem wordedErr_zero {r : Rule} {w : List Int} (h : wordedErr r w = 0) : ruleErr r = 0 ∧ wordErr w = 0 := by
  unfold wordedErr at h
  by_cases h1 : ruleErr r = 0
  · simp [h1] at h; exact ⟨h1, h⟩
  · simp [h1] at h
def placesM (r : Rule) (w : List Int) : List Int := placesF r w 0 (w.length + 1 - (long r).toNat)
def PlacesM (r : Rule) (w : List Int) : List Int × Int := if wordedErr r w ≠ 0 then ([], wordedErr r w) else (placesM r w, 0)
theorem Places_c (r : Rule) (w : List Int) (h : r.small) (hw : w.length ≤ 1000) : CallP Try.prog 60 [ruleV r, ints w] (.tup [ints (PlacesM r w).1, iv (PlacesM r w).2]) := by
  refine C60 (by simp) ?_
  simp [A60]
  try simp 
  repeat' (first
    | (refine CallX.pure (worded_c r w h hw) (by simp) (by simp) ?_; try simp )
    | (refine CallK.intro (worded_c r w h hw) (by simp) (by simp) ?_; try simp )
    | (refine CallG.intro (fun _ => worded_c r w h hw) (by simp) (by simp) ?_; try simp )
    | ((with_reducible refine PreK.intro ?_ ?_); (next => (first | omega | (intros; first | omega | (refine ⟨by omega, ?_⟩; repeat (first | assumption | constructor)) | assumption))); intro _; try simp )
    | fail)
  refine CondK.intro (fun h1 => ?_) (fun h1 => ?_)
  · simp at h1
    simp [PlacesM, h1]
  · simp at h1
    obtain ⟨h2, h3⟩ := wordedErr_zero h1
    obtain ⟨h4, h5⟩ := wordErr_zero h3
    try simp 
    repeat' (first
      | (refine CallX.pure (places_c r w h hw h5) (by simp) (by simp) ?_; try simp )
      | (refine CallK.intro (places_c r w h hw h5) (by simp) (by simp) ?_; try simp )
      | (refine CallG.intro (fun _ => places_c r w h hw h5) (by simp) (by simp) ?_; try simp )
      | ((with_reducible refine PreK.intro ?_ ?_); (next => (first | omega | (intros; first | omega | (refine ⟨by omega, ?_⟩; repeat (first | assumption | constructor)) | assumption))); intro _; try simp )
      | fail)
    simp [PlacesM, h1, placesM]

theorem placesF_any (r : Rule) (w : List Int) (p : Int) : ∀ (n i : Nat), (placesF r w i n).any (fun x => decide (p = x)) = (decide ((i : Int) ≤ p) && (decide (p < (i : Int) + n) && isAt r w p.toNat))
  | 0, i => by
    simp only [placesF, List.any_nil]
    by_cases h : (i : Int) ≤ p
    · have : ¬ p < (i : Int) + (0 : Nat) := by omega
      simp only [this, decide_false, Bool.false_and, Bool.and_false]
    · simp [h]
  | n + 1, i => by
    have ih := placesF_any r w p n (i + 1)
    unfold placesF
    by_cases hp : p = (i : Int)
    · subst hp
      have h1 : ¬ ((i + 1 : Nat) : Int) ≤ (i : Int) := by omega
      by_cases ha : isAt r w i = true
      · rw [if_pos ha]; simp [ha]; omega
      · rw [if_neg ha, ih]; simp [ha]
    · have h2 : decide ((i : Int) ≤ p) = decide (((i + 1 : Nat) : Int) ≤ p) := by
        by_cases h : (i : Int) ≤ p
        · have : ((i + 1 : Nat) : Int) ≤ p := by omega
          simp only [h, this]
        · have : ¬ ((i + 1 : Nat) : Int) ≤ p := by omega
          simp only [h, this]
      have h3 : decide (p < (i : Int) + (n + 1 : Nat)) = decide (p < ((i + 1 : Nat) : Int) + n) := by
        congr 1; simp only [eq_iff_iff]; omega
      rw [h2, h3]
      split
      · rw [List.any_cons, ih]; simp [hp]
      · exact ih
theorem long_cases (r : Rule) : long r = 0 ∨ long r = 1 := by unfold long; split <;> simp
theorem placesM_any (r : Rule) (w : List Int) (p : Int) : (placesM r w).any (fun x => decide (p = x)) = placeB r w p := by
  unfold placesM placeB
  rw [placesF_any]
  have hl := long_cases r
  by_cases h : (0 : Int) ≤ p
  · have e : decide (p < ((0 : Nat) : Int) + (w.length + 1 - (long r).toNat : Nat)) = decide (p + long r ≤ w.length) := by
      congr 1; simp only [eq_iff_iff]; omega
    rw [e]; simp
  · have : ¬ ((0 : Nat) : Int) ≤ p := by omega
    simp [h, this]
theorem placesF_len (r : Rule) (w : List Int) : ∀ (n i : Nat), (placesF r w i n).length ≤ n
  | 0, i => by simp [placesF]
  | n + 1, i => by
    have := placesF_len r w n (i + 1)
    unfold placesF
    split
    · simp; omega
    · omega
theorem placesM_len (r : Rule) (w : List Int) : (placesM r w).length ≤ w.length + 1 := by
  have := placesF_len r w (w.length + 1 - (long r).toNat) 0
  unfold placesM; omega
theorem ruleErr_to {r : Rule} (h : ruleErr r = 0) : r.to.length ≤ 2 := by
  unfold ruleErr at h
  by_cases h0 : (!isNeighbor r.frm) = true
  · rw [if_pos h0] at h; cases h
  · rw [if_neg h0] at h
    by_cases h1 : 2 < r.to.length
    · rw [if_pos h1] at h; cases h
    · omega
theorem Apply_c (r : Rule) (w : List Int) (p : Int) (h : r.small) (hw : w.length ≤ 1000) : CallP Try.prog 70 [ruleV r, ints w, iv p] (.tup [ints (applyM r w p).1, iv (applyM r w p).2]) := by
  refine C70 (by simp) ?_
  have hbig : (placesM r w).length ≤ big := by have := placesM_len r w; simp only [big]; omega
  simp [A70]
  try simp 
  repeat' (first
    | (refine CallX.pure (worded_c r w h hw) (by simp) (by simp) ?_; try simp )
    | (refine CallK.intro (worded_c r w h hw) (by simp) (by simp) ?_; try simp )
    | (refine CallG.intro (fun _ => worded_c r w h hw) (by simp) (by simp) ?_; try simp )
    | ((with_reducible refine PreK.intro ?_ ?_); (next => (first | omega | (intros; first | omega | (refine ⟨by omega, ?_⟩; repeat (first | assumption | constructor)) | assumption))); intro _; try simp )
    | fail)
  refine CondK.intro (fun h1 => ?_) (fun h1 => ?_)
  · simp at h1
    simp [applyM, h1]
  · simp at h1
    obtain ⟨h2, h3⟩ := wordedErr_zero h1
    obtain ⟨h4, h5⟩ := wordErr_zero h3
    try simp 
    repeat' (first
      | (refine CallX.pure (places_c r w h hw h5) (by simp) (by simp) ?_; try simp )
      | (refine CallK.intro (places_c r w h hw h5) (by simp) (by simp) ?_; try simp )
      | (refine CallG.intro (fun _ => places_c r w h hw h5) (by simp) (by simp) ?_; try simp )
      | (refine CallX.pure (contains_c (placesM r w) p hbig) (by simp) (by simp) ?_; try simp )
      | (refine CallK.intro (contains_c (placesM r w) p hbig) (by simp) (by simp) ?_; try simp )
      | (refine CallG.intro (fun _ => contains_c (placesM r w) p hbig) (by simp) (by simp) ?_; try simp )
      | ((with_reducible refine PreK.intro ?_ ?_); (next => (first | omega | (intros; first | omega | (refine ⟨by omega, ?_⟩; repeat (first | assumption | constructor)) | assumption))); intro _; try simp )
      | fail)
    rw [placesM_any]
    refine CondK.intro (fun h6 => ?_) (fun h6 => ?_)
    · simp at h6
      simp [applyM, h1, h6]
    · simp at h6
      have h6' := h6
      simp only [placeB, Bool.and_eq_true, decide_eq_true_eq] at h6'
      have hl := long_cases r
      obtain ⟨n, rfl⟩ := Int.eq_ofNat_of_zero_le h6'.1
      have ht := ruleErr_to h2
      have e1 : n + (long r).toNat ≤ w.length := by omega
      have e2 := put_c r w n e1 (by omega) (by omega)
      try simp 
      repeat' (first
        | (refine CallX.pure (e2) (by simp) (by simp) ?_; try simp )
        | (refine CallK.intro (e2) (by simp) (by simp) ?_; try simp )
        | (refine CallG.intro (fun _ => e2) (by simp) (by simp) ?_; try simp )
        | (refine CallX.pure (short_c (putW r w n)) (by simp) (by simp) ?_; try simp )
        | (refine CallK.intro (short_c (putW r w n)) (by simp) (by simp) ?_; try simp )
        | (refine CallG.intro (fun _ => short_c (putW r w n)) (by simp) (by simp) ?_; try simp )
        | ((with_reducible refine PreK.intro ?_ ?_); (next => (first | omega | (intros; first | omega | (refine ⟨by omega, ?_⟩; repeat (first | assumption | constructor)) | assumption))); intro _; try simp )
        | fail)
      by_cases h7 : 8 < (putW r w n).length
      · simp [applyM, h1, h6, h7, shortErr]
      · simp [applyM, h1, h6, h7, shortErr]
end Go.Proofs.Ytaooenmkofjafaa
end

section
/- Functions of the cut as the value layer reads them. (written by gen.py) -/
set_option maxRecDepth 20000
namespace Go.Proofs.Ytaooenmkofjafaa
open Go.Abs Go

def A184 : ACode :=
  (.seq (.reg [] [⟨some 4, (.assign (.const (.int .i64 0))), 3, none⟩])
    (.seq (.seq (.reg [] [⟨some 6, (.move (.tmp 0)), 117, none⟩,
      ⟨some 7, (.call ⟨(.builtin .len), #[(.tmp 6)], #[117]⟩), 3, none⟩,
      ⟨some 8, (.move (.const (.int .i64 0))), 3, none⟩])
    (.block 0 (.loop (.seq (.reg [] [⟨some 9, (.binOp .lss 3 (.tmp 8) (.tmp 7) 3), 0, none⟩])
    (.seq (.cond (.tmp 9)
    .skip
    (.exit 0))
    (.seq (.block 1 (.seq (.reg [] [⟨some 10, (.move (.tmp 8)), 3, none⟩,
      ⟨some 5, (.assign (.tmp 10)), 3, none⟩])
    (.seq (.reg [] [⟨some 11, (.move (.tmp 1)), 191, none⟩,
      ⟨some 12, (.move (.tmp 0)), 117, none⟩,
      ⟨some 13, (.move (.tmp 5)), 3, none⟩,
      ⟨some 14, (.indexAddr 117 (.tmp 12) (.tmp 13)), 0, none⟩,
      ⟨some 15, (.load 120 (.tmp 14)), 120, none⟩,
      ⟨some 16, (.call ⟨(.value (.tmp 11)), #[(.tmp 15)], #[120]⟩), 4, none⟩])
    (.cond (.tmp 16)
    (.seq (.reg [] [⟨some 17, (.move (.tmp 5)), 3, none⟩,
      ⟨some 4, (.assign (.tmp 17)), 3, none⟩])
    .ret)
    .skip))))
    (.reg [] [⟨some 18, (.binOp .add 3 (.tmp 8) (.const (.int .i64 1)) 3), 3, none⟩,
      ⟨some 8, (.move (.tmp 18)), 3, none⟩])))))))
    (.seq (.reg [] [⟨some 4, (.assign (.const (.int .i64 (-1)))), 3, none⟩])
    .ret)))
theorem C184 {args : List AV} {r : AV} (hn : args.length ≤ 19) (h : vc Try.prog T [] A184 (Fin T [(.tmp 4)] r) ⟨envOf 0 args, []⟩) : CallP Try.prog 184 args r :=
  callP_of tok mixed Try.func184 (by kernel_rfl) (by kernel_rfl) (by kernel_rfl : Try.f184.ntmps = 19) (by kernel_rfl : Try.f184.body.bind (strip 19 (fun _ => [])) = some A184) hn h
def A185 : ACode :=
  (.seq (.reg [] [⟨some 2, (.box 120 (.tmp 0)), 0, none⟩,
      ⟨some 3, (.assign (.const (.bool false))), 4, none⟩])
    (.seq (.reg [] [⟨some 4, (.fieldAddr 120 (.tmp 2) 0), 0, none⟩,
      ⟨some 5, (.load 46 (.tmp 4)), 46, none⟩,
      ⟨some 6, (.fieldAddr 120 (.tmp 1) 0), 0, none⟩,
      ⟨some 7, (.load 46 (.tmp 6)), 46, none⟩,
      ⟨some 8, (.binOp .neq 46 (.tmp 5) (.tmp 7) 46), 4, none⟩,
      ⟨some 3, (.assign (.tmp 8)), 4, none⟩])
    .ret))
theorem C185 {args : List AV} {r : AV} (hn : args.length ≤ 9) (h : vc Try.prog T [] A185 (Fin T [(.tmp 3)] r) ⟨envOf 0 args, []⟩) : CallP Try.prog 185 args r :=
  callP_of tok mixed Try.func185 (by kernel_rfl) (by kernel_rfl) (by kernel_rfl : Try.f185.ntmps = 9) (by kernel_rfl : Try.f185.body.bind (strip 9 (fun _ => [])) = some A185) hn h
def A188 : ACode :=
  (.seq (.reg [] [⟨some 0, (.alloc 195), 0, none⟩])
    (.seq (.reg [] [⟨some 1, (.build 194 #[(0, (.func 221))]), 194, none⟩,
      ⟨some 2, (.build 194 #[(0, (.func 223))]), 194, none⟩,
      ⟨some 3, (.build 194 #[(0, (.func 224))]), 194, none⟩,
      ⟨some 4, (.build 194 #[(0, (.func 225))]), 194, none⟩,
      ⟨some 5, (.build 195 #[(0, (.tmp 1)), (1, (.tmp 2)), (2, (.tmp 3)), (3, (.tmp 4))]), 195, none⟩,
      ⟨none, (.store 195 (.tmp 0) (.tmp 5)), 0, none⟩])
    .ret))
theorem C188 {args : List AV} {r : AV} (hn : args.length ≤ 6) (h : vc Try.prog T [] A188 (Fin T [(.cell 0 195)] r) ⟨envOf 0 args, []⟩) : CallP Try.prog 188 args r :=
  callP_of tok mixed Try.func188 (by kernel_rfl) (by kernel_rfl) (by kernel_rfl : Try.f188.ntmps = 6) (by kernel_rfl : Try.f188.body.bind (strip 6 (fun _ => [])) = some A188) hn h
def A221 : ACode :=
  (.seq (.reg [] [⟨some 4, (.box 120 (.tmp 1)), 0, none⟩,
      ⟨some 5, (.box 120 (.tmp 2)), 0, none⟩,
      ⟨some 6, (.assign (.const (.bool false))), 4, none⟩])
    (.seq (.reg [] [⟨some 7, (.fieldAddr 120 (.tmp 4) 0), 0, none⟩,
      ⟨some 8, (.fieldAddr 46 (.tmp 7) 1), 0, none⟩,
      ⟨some 9, (.load 3 (.tmp 8)), 3, none⟩,
      ⟨some 10, (.fieldAddr 120 (.tmp 5) 0), 0, none⟩,
      ⟨some 11, (.fieldAddr 46 (.tmp 10) 1), 0, none⟩,
      ⟨some 12, (.load 3 (.tmp 11)), 3, none⟩,
      ⟨some 13, (.binOp .eql 3 (.tmp 9) (.tmp 12) 3), 4, none⟩,
      ⟨some 14, (.move (.tmp 13)), 4, none⟩,
      ⟨some 15, (.load 120 (.tmp 4)), 120, some (14, true)⟩,
      ⟨some 16, (.load 120 (.tmp 5)), 120, some (14, true)⟩,
      ⟨some 17, (.call ⟨(.value (.func 222)), #[(.tmp 15), (.tmp 16)], #[120, 120]⟩), 4, some (14, true)⟩,
      ⟨some 18, (.pick (.tmp 14) (.tmp 17) (.const (.bool false))), 4, none⟩,
      ⟨some 6, (.assign (.tmp 18)), 4, none⟩])
    .ret))
theorem C221 {args : List AV} {r : AV} (hn : args.length ≤ 19) (h : vc Try.prog T [] A221 (Fin T [(.tmp 6)] r) ⟨envOf 0 args, []⟩) : CallP Try.prog 221 args r :=
  callP_of tok mixed Try.func221 (by kernel_rfl) (by kernel_rfl) (by kernel_rfl : Try.f221.ntmps = 19) (by kernel_rfl : Try.f221.body.bind (strip 19 (fun _ => [])) = some A221) hn h
def A222 : ACode :=
  (.seq (.reg [] [⟨some 2, (.box 120 (.tmp 0)), 0, none⟩,
      ⟨some 3, (.box 120 (.tmp 1)), 0, none⟩,
      ⟨some 4, (.assign (.const (.bool false))), 4, none⟩])
    (.seq (.reg [] [⟨some 10, (.fieldAddr 120 (.tmp 2) 1), 0, none⟩,
      ⟨some 11, (.load 72 (.tmp 10)), 72, none⟩,
      ⟨some 12, (.fieldAddr 120 (.tmp 3) 1), 0, none⟩,
      ⟨some 13, (.load 72 (.tmp 12)), 72, none⟩,
      ⟨some 14, (.call ⟨(.value (.func 63)), #[(.tmp 11), (.tmp 13)], #[72, 72]⟩), 40, none⟩,
      ⟨some 9, (.move (.tmp 14)), 40, none⟩,
      ⟨some 15, (.extract (.tmp 9) 0), 4, none⟩,
      ⟨some 16, (.extract (.tmp 9) 1), 29, none⟩,
      ⟨some 5, (.assign (.tmp 15)), 4, none⟩,
      ⟨some 6, (.assign (.tmp 16)), 29, none⟩])
    (.seq (.reg [] [⟨some 18, (.fieldAddr 120 (.tmp 3) 1), 0, none⟩,
      ⟨some 19, (.load 72 (.tmp 18)), 72, none⟩,
      ⟨some 20, (.fieldAddr 120 (.tmp 2) 1), 0, none⟩,
      ⟨some 21, (.load 72 (.tmp 20)), 72, none⟩,
      ⟨some 22, (.call ⟨(.value (.func 63)), #[(.tmp 19), (.tmp 21)], #[72, 72]⟩), 40, none⟩,
      ⟨some 17, (.move (.tmp 22)), 40, none⟩,
      ⟨some 23, (.extract (.tmp 17) 0), 4, none⟩,
      ⟨some 24, (.extract (.tmp 17) 1), 29, none⟩,
      ⟨some 7, (.assign (.tmp 23)), 4, none⟩,
      ⟨some 8, (.assign (.tmp 24)), 29, none⟩])
    (.seq (.reg [] [⟨some 25, (.move (.tmp 5)), 4, none⟩,
      ⟨some 26, (.move (.tmp 25)), 4, none⟩,
      ⟨some 27, (.move (.tmp 7)), 4, some (26, true)⟩,
      ⟨some 28, (.unOp .not 4 (.tmp 27)), 4, some (26, true)⟩,
      ⟨some 29, (.pick (.tmp 26) (.tmp 28) (.const (.bool false))), 4, none⟩,
      ⟨some 4, (.assign (.tmp 29)), 4, none⟩])
    .ret))))
theorem C222 {args : List AV} {r : AV} (hn : args.length ≤ 30) (h : vc Try.prog T [] A222 (Fin T [(.tmp 4)] r) ⟨envOf 0 args, []⟩) : CallP Try.prog 222 args r :=
  callP_of tok mixed Try.func222 (by kernel_rfl) (by kernel_rfl) (by kernel_rfl : Try.f222.ntmps = 30) (by kernel_rfl : Try.f222.body.bind (strip 30 (fun _ => [])) = some A222) hn h
def A223 : ACode :=
  (.seq (.reg [] [⟨some 4, (.box 120 (.tmp 1)), 0, none⟩,
      ⟨some 5, (.box 120 (.tmp 2)), 0, none⟩,
      ⟨some 6, (.assign (.const (.bool false))), 4, none⟩])
    (.seq (.reg [] [⟨some 7, (.move (.tmp 0)), 23, none⟩,
      ⟨some 8, (.load 120 (.tmp 4)), 120, none⟩,
      ⟨some 9, (.load 120 (.tmp 5)), 120, none⟩,
      ⟨some 10, (.call ⟨(.value (.func 119)), #[(.tmp 7), (.tmp 8), (.tmp 9)], #[23, 120, 120]⟩), 4, none⟩,
      ⟨some 11, (.move (.tmp 10)), 4, none⟩,
      ⟨some 12, (.move (.tmp 0)), 23, some (11, true)⟩,
      ⟨some 13, (.load 120 (.tmp 5)), 120, some (11, true)⟩,
      ⟨some 14, (.load 120 (.tmp 4)), 120, some (11, true)⟩,
      ⟨some 15, (.call ⟨(.value (.func 119)), #[(.tmp 12), (.tmp 13), (.tmp 14)], #[23, 120, 120]⟩), 4, some (11, true)⟩,
      ⟨some 16, (.unOp .not 4 (.tmp 15)), 4, some (11, true)⟩,
      ⟨some 17, (.pick (.tmp 11) (.tmp 16) (.const (.bool false))), 4, none⟩,
      ⟨some 6, (.assign (.tmp 17)), 4, none⟩])
    .ret))
theorem C223 {args : List AV} {r : AV} (hn : args.length ≤ 18) (h : vc Try.prog T [] A223 (Fin T [(.tmp 6)] r) ⟨envOf 0 args, []⟩) : CallP Try.prog 223 args r :=
  callP_of tok mixed Try.func223 (by kernel_rfl) (by kernel_rfl) (by kernel_rfl : Try.f223.ntmps = 18) (by kernel_rfl : Try.f223.body.bind (strip 18 (fun _ => [])) = some A223) hn h
def A224 : ACode :=
  (.seq (.reg [] [⟨some 4, (.box 120 (.tmp 1)), 0, none⟩,
      ⟨some 5, (.box 120 (.tmp 2)), 0, none⟩,
      ⟨some 6, (.assign (.const (.bool false))), 4, none⟩])
    (.seq (.reg [] [⟨some 7, (.fieldAddr 120 (.tmp 4) 0), 0, none⟩,
      ⟨some 8, (.fieldAddr 46 (.tmp 7) 1), 0, none⟩,
      ⟨some 9, (.load 3 (.tmp 8)), 3, none⟩,
      ⟨some 10, (.fieldAddr 120 (.tmp 5) 0), 0, none⟩,
      ⟨some 11, (.fieldAddr 46 (.tmp 10) 1), 0, none⟩,
      ⟨some 12, (.load 3 (.tmp 11)), 3, none⟩,
      ⟨some 13, (.binOp .lss 3 (.tmp 9) (.tmp 12) 3), 4, none⟩,
      ⟨some 6, (.assign (.tmp 13)), 4, none⟩])
    .ret))
theorem C224 {args : List AV} {r : AV} (hn : args.length ≤ 14) (h : vc Try.prog T [] A224 (Fin T [(.tmp 6)] r) ⟨envOf 0 args, []⟩) : CallP Try.prog 224 args r :=
  callP_of tok mixed Try.func224 (by kernel_rfl) (by kernel_rfl) (by kernel_rfl : Try.f224.ntmps = 14) (by kernel_rfl : Try.f224.body.bind (strip 14 (fun _ => [])) = some A224) hn h
def A225 : ACode :=
  (.seq (.reg [] [⟨some 4, (.box 120 (.tmp 1)), 0, none⟩,
      ⟨some 5, (.box 120 (.tmp 2)), 0, none⟩,
      ⟨some 6, (.assign (.const (.bool false))), 4, none⟩])
    (.seq (.reg [] [⟨some 7, (.fieldAddr 120 (.tmp 4) 0), 0, none⟩,
      ⟨some 8, (.fieldAddr 46 (.tmp 7) 0), 0, none⟩,
      ⟨some 9, (.load 3 (.tmp 8)), 3, none⟩,
      ⟨some 10, (.fieldAddr 120 (.tmp 5) 0), 0, none⟩,
      ⟨some 11, (.fieldAddr 46 (.tmp 10) 0), 0, none⟩,
      ⟨some 12, (.load 3 (.tmp 11)), 3, none⟩,
      ⟨some 13, (.binOp .gtr 3 (.tmp 9) (.tmp 12) 3), 4, none⟩,
      ⟨some 6, (.assign (.tmp 13)), 4, none⟩])
    .ret))
theorem C225 {args : List AV} {r : AV} (hn : args.length ≤ 14) (h : vc Try.prog T [] A225 (Fin T [(.tmp 6)] r) ⟨envOf 0 args, []⟩) : CallP Try.prog 225 args r :=
  callP_of tok mixed Try.func225 (by kernel_rfl) (by kernel_rfl) (by kernel_rfl : Try.f225.ntmps = 14) (by kernel_rfl : Try.f225.body.bind (strip 14 (fun _ => [])) = some A225) hn h
end Go.Proofs.Ytaooenmkofjafaa
end

section
/- Contracts: the reference's rules. -/
namespace Go.Proofs.Ytaooenmkofjafaa
open Go.Abs Go
set_option maxRecDepth 20000
set_option maxHeartbeats 2000000
attribute [local irreducible] PreK CondK CallK CallG CallX LoopK

end Go.Proofs.Ytaooenmkofjafaa
end

section
/- Contracts: the reference's checks of rules, and its Apply. -/
namespace Go.Proofs.Ytaooenmkofjafaa
open Go.Abs Go
set_option maxRecDepth 20000
set_option maxHeartbeats 2000000
attribute [local irreducible] PreK CondK CallK CallG CallX LoopK

theorem ruleErr_frm {r : Rule} (h : ruleErr r = 0) : isNeighbor r.frm = true := by
  unfold ruleErr at h
  by_cases h0 : (!isNeighbor r.frm) = true
  · rw [if_pos h0] at h; cases h
  · simpa using h0
end Go.Proofs.Ytaooenmkofjafaa
end

section
/- Contracts: systems and their steps. -/
namespace Go.Proofs.Ytaooenmkofjafaa
open Go.Abs Go
set_option maxRecDepth 20000
set_option maxHeartbeats 2000000
attribute [local irreducible] PreK CondK CallK CallG CallX LoopK

def Sys.small (s : List Rule) : Prop := s.length ≤ 1000 ∧ ∀ r ∈ s, r.small
theorem Sys.small.el {s : List Rule} (h : Sys.small s) {i : Nat} (hi : i < s.length) : (el s i).small := by
  rw [el_eq s i hi]; exact h.2 _ (List.getElem_mem hi)
@[simp] def moveV (x : Move) : AV := .agg [iv x.step.rule, iv x.step.place, ints x.word]
@[simp] def movesV (l : List Move) : AV := .seq 3 (l.map moveV) false
@[simp] theorem nth_move (l : List Move) (k : Nat) (h : k < l.length) : nth (l.map moveV) k = moveV (el l k) := nth_map moveV l k h
theorem Validate_c (s : List Rule) (h : Sys.small s) : CallP Try.prog 83 [rulesV s] (iv (sysErr s)) := by
  refine C83 (by simp) ?_
  generalize hR : sysErr s = R
  unfold sysErr at hR
  have hl := h.1
  simp [A83]
  refine CondK.intro (fun h1 => ?_) (fun h1 => ?_)
  · simp at h1
    rw [if_pos (by omega)] at hR
    simp [hR]
  · simp at h1
    rw [if_neg (by omega)] at hR
    try simp 
    refine LoopK.by (fun i : Nat => ⟨[(11, iv i), (10, iv s.length), (9, rulesV s)], []⟩) (fun i => s.length - i) (fun i => i ≤ s.length ∧ firstErr (s.drop i) = R) 0 (by simpa using hR) (by simp) ?_
    intro i Q' ⟨hi, hc⟩ hq he hr
    try simp 
    refine CondK.intro (fun h2 => ?_) (fun h2 => ?_)
    · simp at h2
      rw [drop_cons s i h2, firstErr] at hc
      simp [h2]
      try simp 
      repeat' (first
        | (refine CallX.pure (validate_s (h.el h2)) (by simp) (by simp) ?_; try simp )
        | (refine CallK.intro (validate_s (h.el h2)) (by simp) (by simp) ?_; try simp )
        | (refine CallG.intro (fun _ => validate_s (h.el h2)) (by simp) (by simp) ?_; try simp )
        | ((with_reducible refine PreK.intro ?_ ?_); (next => (first | omega | (intros; first | omega | (refine ⟨by omega, ?_⟩; repeat (first | assumption | constructor)) | assumption))); intro _; try simp )
        | fail)
      refine CondK.intro (fun h3 => ?_) (fun h3 => ?_)
      · simp at h3
        simp [h3] at hc
        try simp 
        apply hr
        simp [hc]
      · simp at h3
        simp [h3] at hc
        try simp 
        refine PreK.intro (by omega) fun _ => ?_
        try simp 
        exact hq (i + 1) _ ⟨by omega, hc⟩ (by omega) (by simp)
    · simp at h2
      rw [List.drop_eq_nil_of_le (by omega)] at hc
      simp [firstErr] at hc
      try simp 
      apply he
      simp [hc]
def firstW : List (List Int) → Int
  | [] => 0
  | w :: l => if wordErr w ≠ 0 then wordErr w else firstW l
def checkErr (s : List Rule) (ws : List (List Int)) : Int := if sysErr s ≠ 0 then sysErr s else firstW ws
theorem check_c (s : List Rule) (ws : List (List Int)) (h : Sys.small s) (hn : ws.length ≤ 1000) (hw : ∀ w ∈ ws, w.length ≤ 1000) : CallP Try.prog 140 [rulesV s, .seq 1 (ws.map ints) false] (iv (checkErr s ws)) := by
  refine C140 (by simp) ?_
  generalize hR : checkErr s ws = R
  unfold checkErr at hR
  simp [A140]
  try simp 
  repeat' (first
    | (refine CallX.pure (Validate_c s h) (by simp) (by simp) ?_; try simp )
    | (refine CallK.intro (Validate_c s h) (by simp) (by simp) ?_; try simp )
    | (refine CallG.intro (fun _ => Validate_c s h) (by simp) (by simp) ?_; try simp )
    | ((with_reducible refine PreK.intro ?_ ?_); (next => (first | omega | (intros; first | omega | (refine ⟨by omega, ?_⟩; repeat (first | assumption | constructor)) | assumption))); intro _; try simp )
    | fail)
  refine CondK.intro (fun h1 => ?_) (fun h1 => ?_)
  · simp at h1
    simp [h1] at hR
    simp [hR]
  · simp at h1
    simp [h1] at hR
    try simp 
    refine LoopK.by (fun i : Nat => ⟨[(16, iv i), (15, iv ws.length), (14, .seq 1 (ws.map ints) false)], []⟩) (fun i => ws.length - i) (fun i => i ≤ ws.length ∧ firstW (ws.drop i) = R) 0 (by simpa using hR) (by simp) ?_
    intro i Q' ⟨hi, hc⟩ hq he hr
    try simp 
    refine CondK.intro (fun h2 => ?_) (fun h2 => ?_)
    · simp at h2
      rw [drop_cons ws i h2, firstW] at hc
      have hwi : (el ws i).length ≤ big := by
        have := hw (el ws i) (by rw [el_eq ws i h2]; exact List.getElem_mem h2)
        simp only [big]; omega
      simp [h2]
      try simp 
      repeat' (first
        | (refine CallX.pure (validateWord_c (el ws i) hwi) (by simp) (by simp) ?_; try simp )
        | (refine CallK.intro (validateWord_c (el ws i) hwi) (by simp) (by simp) ?_; try simp )
        | (refine CallG.intro (fun _ => validateWord_c (el ws i) hwi) (by simp) (by simp) ?_; try simp )
        | ((with_reducible refine PreK.intro ?_ ?_); (next => (first | omega | (intros; first | omega | (refine ⟨by omega, ?_⟩; repeat (first | assumption | constructor)) | assumption))); intro _; try simp )
        | fail)
      refine CondK.intro (fun h3 => ?_) (fun h3 => ?_)
      · simp at h3
        simp [h3] at hc
        try simp 
        apply hr
        simp [hc]
      · simp at h3
        simp [h3] at hc
        try simp 
        refine PreK.intro (by omega) fun _ => ?_
        try simp 
        exact hq (i + 1) _ ⟨by omega, hc⟩ (by omega) (by simp)
    · simp at h2
      rw [List.drop_eq_nil_of_le (by omega)] at hc
      simp [firstW] at hc
      try simp 
      apply he
      simp [hc]
theorem check_one (s : List Rule) (w : List Int) : checkErr s [w] = swErr s w := by
  unfold checkErr swErr
  by_cases h : sysErr s = 0
  · by_cases h2 : wordErr w = 0 <;> simp [h, h2, firstW]
  · simp [h]
end Go.Proofs.Ytaooenmkofjafaa
end

section
/- Contracts: the steps of a word. -/
namespace Go.Proofs.Ytaooenmkofjafaa
open Go.Abs Go
set_option maxRecDepth 20000
set_option maxHeartbeats 2000000
attribute [local irreducible] PreK CondK CallK CallG CallX LoopK

/-- The steps of a rule at given places. -/
def moveI (r : Rule) (w : List Int) (k : Nat) (p : Int) : List Move := if (applyM r w p).2 = 0 then [⟨⟨k, p⟩, (applyM r w p).1⟩] else []
def movesP (r : Rule) (w : List Int) (k : Nat) : List Int → List Move
  | [] => []
  | p :: l => moveI r w k p ++ movesP r w k l
theorem applyM_not {r : Rule} {w : List Int} {p : Int} (h : wordedErr r w = 0) (hp : placeB r w p = false) : (applyM r w p).2 = 6 := by simp [applyM, h, hp]
theorem moveI_not {r : Rule} {w : List Int} {k : Nat} {p : Int} (h : wordedErr r w = 0) (hp : placeB r w p = false) : moveI r w k p = [] := by simp [moveI, applyM_not h hp]
theorem movesP_places {r : Rule} {w : List Int} {k : Nat} (h : wordedErr r w = 0) : ∀ (n i : Nat), i + n ≤ w.length + 1 - (long r).toNat → movesP r w k (placesF r w i n) = movesR r w k i n
  | 0, i, _ => rfl
  | n + 1, i, hn => by
    have ih := movesP_places (k := k) h n (i + 1) (by omega)
    have hl := long_cases r
    unfold placesF movesR
    by_cases ha : isAt r w i = true
    · rw [if_pos ha, movesP, ih]; rfl
    · rw [if_neg ha, ih]
      have : placeB r w i = false := by
        unfold placeB
        have e : isAt r w ((i : Int).toNat) = false := by simpa using ha
        rw [e]; simp
      have e2 : moveAt r w k i = moveI r w k i := rfl
      rw [e2, moveI_not h this, List.nil_append]
theorem movesR_end {r : Rule} {w : List Int} {k : Nat} (h : wordedErr r w = 0) : ∀ (n i : Nat), w.length + 1 - (long r).toNat ≤ i → movesR r w k i n = []
  | 0, i, _ => rfl
  | n + 1, i, hi => by
    rw [movesR, movesR_end (k := k) h n (i + 1) (by omega)]
    have : placeB r w i = false := by
      unfold placeB
      have hl := long_cases r
      have : ¬ ((i : Int) + long r ≤ w.length) := by omega
      simp [this]
    have e2 : moveAt r w k i = moveI r w k i := rfl
    rw [e2, moveI_not h this]
    rfl
theorem movesR_add {r : Rule} {w : List Int} {k : Nat} : ∀ (n m i : Nat), movesR r w k i (n + m) = movesR r w k i n ++ movesR r w k (i + n) m
  | 0, m, i => by simp [movesR]
  | n + 1, m, i => by
    rw [show n + 1 + m = (n + m) + 1 by omega, movesR, movesR, movesR_add n m (i + 1), List.append_assoc, show i + 1 + n = i + (n + 1) by omega]
theorem movesP_all {r : Rule} {w : List Int} {k : Nat} (h : wordedErr r w = 0) : movesP r w k (placesM r w) = movesR r w k 0 (w.length + 1) := by
  have hl := long_cases r
  have e : w.length + 1 = (w.length + 1 - (long r).toNat) + (long r).toNat := by omega
  have e1 := movesR_end (k := k) h (long r).toNat (0 + (w.length + 1 - (long r).toNat)) (by omega)
  rw [e, movesR_add, e1, List.append_nil]
  exact movesP_places h _ 0 (by omega)
theorem moveI_len (r : Rule) (w : List Int) (k : Nat) (p : Int) : (moveI r w k p).length ≤ 1 := by unfold moveI; split <;> simp
theorem firstErr_el {s : List Rule} (h : firstErr s = 0) : ∀ r ∈ s, ruleErr r = 0 := by
  induction s with
  | nil => intro r hr; cases hr
  | cons r0 s ih =>
    unfold firstErr at h
    by_cases h0 : ruleErr r0 = 0
    · simp [h0] at h
      intro r hr
      rcases List.mem_cons.1 hr with rfl | hr
      · exact h0
      · exact ih h r hr
    · simp [h0] at h
theorem sysErr_zero {s : List Rule} (h : sysErr s = 0) : s.length ≤ 6 ∧ ∀ r ∈ s, ruleErr r = 0 := by
  unfold sysErr at h
  by_cases h1 : 6 < s.length
  · simp [h1] at h
  · simp [h1] at h
    exact ⟨by omega, firstErr_el h⟩
theorem wordedErr_of {r : Rule} {w : List Int} (h : ruleErr r = 0) (hw : wordErr w = 0) : wordedErr r w = 0 := by simp [wordedErr, h, hw]

theorem moves_c (s : List Rule) (w : List Int) (h : Sys.small s) (hs : sysErr s = 0) (hw : wordErr w = 0) : CallP Try.prog 141 [rulesV s, ints w] (movesV (movesM s w)) := by
  refine C141 (by simp) ?_
  generalize hR : movesM s w = R
  unfold movesM at hR
  obtain ⟨hs6, hsr⟩ := sysErr_zero hs
  obtain ⟨hw8, hww⟩ := wordErr_zero hw
  have hw1 : w.length ≤ 1000 := by omega
  simp [A141]
  refine LoopK.by (ι := Nat × Nat × List Move) (fun i => ⟨[(16, iv i.1), (15, iv s.length), (14, rulesV s), (1, ints w), (5, .sl 5 i.2.1 0 i.2.2.length)], [(5, some ⟨3, i.2.2.map moveV, i.2.1, false⟩)]⟩) (fun i => s.length - i.1)
    (fun i => i.1 ≤ s.length ∧ i.2.2.length ≤ 10 * i.1 ∧ i.2.2 ++ movesF w i.1 (s.drop i.1) = R) (0, 1, []) (by simpa using hR) (by simp) ?_
  intro ⟨i, ver, acc⟩ Q' ⟨hi, ha, hc⟩ hq he hr
  dsimp only at hi ha hc
  try simp 
  refine CondK.intro (fun h1 => ?_) (fun h1 => ?_)
  · simp at h1
    have hri : ruleErr (el s i) = 0 := hsr _ (by rw [el_eq s i h1]; exact List.getElem_mem h1)
    have hwi := wordedErr_of hri hw
    have hsm := h.el h1
    rw [drop_cons s i h1, movesF, ← movesP_all hwi] at hc
    have hpl := placesM_len (el s i) w
    have hP : PlacesM (el s i) w = (placesM (el s i) w, 0) := by simp [PlacesM, hwi]
    have hPc : CallP Try.prog 60 [ruleV (el s i), ints w] (.tup [ints (placesM (el s i) w), iv 0]) := by
      have := Places_c (el s i) w hsm hw1
      rwa [hP] at this
    generalize placesM (el s i) w = ps at hc hpl hPc
    simp [h1]
    try simp 
    repeat' (first
      | (refine CallX.pure (hPc) (by simp) (by simp) ?_; try simp )
      | (refine CallK.intro (hPc) (by simp) (by simp) ?_; try simp )
      | (refine CallG.intro (fun _ => hPc) (by simp) (by simp) ?_; try simp )
      | ((with_reducible refine PreK.intro ?_ ?_); (next => (first | omega | (intros; first | omega | (refine ⟨by omega, ?_⟩; repeat (first | assumption | constructor)) | assumption))); intro _; try simp )
      | fail)
    refine LoopK.by (ι := Nat × Nat × List Move) (fun j => ⟨[(29, iv j.1), (28, iv ps.length), (27, ints ps), (6, iv i), (7, .pt 7 1 0 0), (16, iv i), (15, iv s.length), (14, rulesV s), (1, ints w), (5, .sl 5 j.2.1 0 j.2.2.length)],
      [(5, some ⟨3, j.2.2.map moveV, j.2.1, false⟩), (7, some ⟨4, [ruleV (el s i)], 1, true⟩)]⟩) (fun j => ps.length - j.1)
      (fun j => j.1 ≤ ps.length ∧ j.2.2.length ≤ 10 * i + j.1 ∧ j.2.2 ++ (movesP (el s i) w i (ps.drop j.1) ++ movesF w (i + 1) (s.drop (i + 1))) = R) (0, ver, acc) (by simp; exact ⟨ha, hc⟩) (by simp) ?_
    intro ⟨j, ver', acc'⟩ Q'' ⟨hj, ha', hc'⟩ hq' he' hr'
    dsimp only at hj ha' hc'
    try simp 
    refine CondK.intro (fun h2 => ?_) (fun h2 => ?_)
    · simp at h2
      rw [drop_cons ps j h2, movesP] at hc'
      simp [h2]
      try simp 
      repeat' (first
        | (refine CallX.pure (Apply_c (el s i) w (el ps j) hsm hw1) (by simp) (by simp) ?_; try simp )
        | (refine CallK.intro (Apply_c (el s i) w (el ps j) hsm hw1) (by simp) (by simp) ?_; try simp )
        | (refine CallG.intro (fun _ => Apply_c (el s i) w (el ps j) hsm hw1) (by simp) (by simp) ?_; try simp )
        | ((with_reducible refine PreK.intro ?_ ?_); (next => (first | omega | (intros; first | omega | (refine ⟨by omega, ?_⟩; repeat (first | assumption | constructor)) | assumption))); intro _; try simp )
        | fail)
      refine CondK.intro (fun h3 => ?_) (fun h3 => ?_)
      · simp at h3
        have e : moveI (el s i) w i (el ps j) = [⟨⟨i, el ps j⟩, (applyM (el s i) w (el ps j)).1⟩] := by simp [moveI, h3]
        rw [e] at hc'
        try simp 
        repeat' (first
          | ((with_reducible refine PreK.intro ?_ ?_); (next => (first | omega | (intros; first | omega | (refine ⟨by omega, ?_⟩; repeat (first | assumption | constructor)) | assumption))); intro _; try simp )
          | fail)
        exact hq' (j + 1, ver' + 1, acc' ++ [⟨⟨i, el ps j⟩, (applyM (el s i) w (el ps j)).1⟩]) _ ⟨by dsimp only; omega, by simp; omega, by simpa using hc'⟩ (by dsimp only; omega) (by simp)
      · simp at h3
        have e : moveI (el s i) w i (el ps j) = [] := by simp [moveI, h3]
        rw [e] at hc'
        try simp 
        repeat' (first
          | ((with_reducible refine PreK.intro ?_ ?_); (next => (first | omega | (intros; first | omega | (refine ⟨by omega, ?_⟩; repeat (first | assumption | constructor)) | assumption))); intro _; try simp )
          | fail)
        exact hq' (j + 1, ver', acc') _ ⟨by dsimp only; omega, by dsimp only; omega, by simpa using hc'⟩ (by dsimp only; omega) (by simp)
    · simp at h2
      rw [List.drop_eq_nil_of_le (by omega), movesP] at hc'
      try simp 
      apply he'
      try simp 
      repeat' (first
        | ((with_reducible refine PreK.intro ?_ ?_); (next => (first | omega | (intros; first | omega | (refine ⟨by omega, ?_⟩; repeat (first | assumption | constructor)) | assumption))); intro _; try simp )
        | fail)
      exact hq (i + 1, ver', acc') _ ⟨by dsimp only; omega, by dsimp only; omega, by simpa using hc'⟩ (by dsimp only; omega) (by simp)
  · simp at h1
    rw [List.drop_eq_nil_of_le (by omega)] at hc
    simp [movesF] at hc
    try simp 
    apply he
    simp [hc]
@[simp] def wordsV (l : List (List Int)) : AV := .seq 1 (l.map ints) false
end Go.Proofs.Ytaooenmkofjafaa
end

section
/- Contracts: Steps, and which rule is special. -/
namespace Go.Proofs.Ytaooenmkofjafaa
open Go.Abs Go
set_option maxRecDepth 20000
set_option maxHeartbeats 2000000
attribute [local irreducible] PreK CondK CallK CallG CallX LoopK
attribute [local simp] avsEq avEq akind teq vkind vEq

theorem swErr_zero {s : List Rule} {w : List Int} (h : swErr s w = 0) : sysErr s = 0 ∧ wordErr w = 0 := by
  unfold swErr at h
  by_cases h1 : sysErr s = 0
  · simp [h1] at h; exact ⟨h1, h⟩
  · simp [h1] at h
theorem movesR_len (r : Rule) (w : List Int) (k : Nat) : ∀ (n i : Nat), (movesR r w k i n).length ≤ n
  | 0, i => by simp [movesR]
  | n + 1, i => by
    have h1 := movesR_len r w k n (i + 1)
    have h2 := moveI_len r w k i
    have e : moveAt r w k i = moveI r w k i := rfl
    rw [movesR, e]
    simp; omega
theorem movesF_len (w : List Int) : ∀ (s : List Rule) (k : Nat), (movesF w k s).length ≤ s.length * (w.length + 1)
  | [], k => by simp [movesF]
  | r :: s, k => by
    have h1 := movesF_len w s (k + 1)
    have h2 := movesR_len r w k (w.length + 1) 0
    rw [movesF]
    simp only [List.length_append, List.length_cons, Nat.add_mul, Nat.one_mul]
    omega
theorem movesM_len {s : List Rule} {w : List Int} (hs : sysErr s = 0) (hw : wordErr w = 0) : (movesM s w).length ≤ 54 := by
  have h1 := (sysErr_zero hs).1
  have h2 := (wordErr_zero hw).1
  have h3 := movesF_len w s 0
  have h4 : s.length * (w.length + 1) ≤ 6 * 9 := Nat.mul_le_mul h1 (by omega)
  unfold movesM; omega
theorem Steps_c (s : List Rule) (w : List Int) (h : Sys.small s) (hw : w.length ≤ 1000) : CallP Try.prog 80 [rulesV s, ints w] (.tup [stepsV (stepsM s w), iv (swErr s w)]) := by
  refine C80 (by simp) ?_
  have hck := check_c s [w] h (by simp) (by simpa using hw)
  rw [check_one] at hck
  simp [A80]
  try simp 
  repeat' (first
    | (refine CallX.pure (hck) (by simp) (by simp) ?_; try simp )
    | (refine CallK.intro (hck) (by simp) (by simp) ?_; try simp )
    | (refine CallG.intro (fun _ => hck) (by simp) (by simp) ?_; try simp )
    | ((with_reducible refine PreK.intro ?_ ?_); (next => (first | omega | (intros; first | omega | (refine ⟨by omega, ?_⟩; repeat (first | assumption | constructor)) | assumption))); intro _; try simp )
    | fail)
  refine CondK.intro (fun h1 => ?_) (fun h1 => ?_)
  · simp at h1
    simp [stepsM, h1]
  · simp at h1
    obtain ⟨h2, h3⟩ := swErr_zero h1
    have hlen := movesM_len h2 h3
    have hmv := moves_c s w h h2 h3
    have hst : stepsM s w = (movesM s w).map (·.step) := by simp [stepsM, h1]
    rw [hst]
    generalize hR : movesM s w = R at hmv hlen
    try simp 
    repeat' (first
      | (refine CallX.pure (hmv) (by simp) (by simp) ?_; try simp )
      | (refine CallK.intro (hmv) (by simp) (by simp) ?_; try simp )
      | (refine CallG.intro (fun _ => hmv) (by simp) (by simp) ?_; try simp )
      | ((with_reducible refine PreK.intro ?_ ?_); (next => (first | omega | (intros; first | omega | (refine ⟨by omega, ?_⟩; repeat (first | assumption | constructor)) | assumption))); intro _; try simp )
      | fail)
    refine LoopK.by (ι := Nat × Nat × List Step) (fun i => ⟨[(21, iv i.1), (20, iv R.length), (19, movesV R), (7, .sl 7 i.2.1 0 i.2.2.length)], [(7, some ⟨2, i.2.2.map stepV, i.2.1, false⟩)]⟩) (fun i => R.length - i.1)
      (fun i => i.1 ≤ R.length ∧ i.2.2.length ≤ i.1 ∧ i.2.2 ++ (R.drop i.1).map (·.step) = R.map (·.step)) (0, 1, []) (by simp) (by simp) ?_
    intro ⟨i, ver, acc⟩ Q' ⟨hi, ha, hc⟩ hq he hr
    dsimp only at hi ha hc
    try simp 
    refine CondK.intro (fun h4 => ?_) (fun h4 => ?_)
    · simp at h4
      rw [drop_cons R i h4, List.map_cons] at hc
      simp [h4]
      try simp 
      repeat' (first
        | ((with_reducible refine PreK.intro ?_ ?_); (next => (first | omega | (intros; first | omega | (refine ⟨by omega, ?_⟩; repeat (first | assumption | constructor)) | assumption))); intro _; try simp )
        | fail)
      exact hq (i + 1, ver + 1, acc ++ [(el R i).step]) _ ⟨by dsimp only; omega, by simp; omega, by simpa using hc⟩ (by dsimp only; omega) (by simp)
    · simp at h4
      rw [List.drop_eq_nil_of_le (by omega)] at hc
      simp at hc
      try simp 
      apply he
      simp [hc, h1]
theorem two_c (r s : Rule) (h : r.small) (h2 : s.small) : CallP Try.prog 147 [ruleV r, ruleV s] (iv (twoErr r s)) := by
  refine C147 (by simp) ?_
  simp [A147]
  try simp 
  repeat' (first
    | (refine CallX.pure (validate_s h) (by simp) (by simp) ?_; try simp )
    | (refine CallK.intro (validate_s h) (by simp) (by simp) ?_; try simp )
    | (refine CallG.intro (fun _ => validate_s h) (by simp) (by simp) ?_; try simp )
    | ((with_reducible refine PreK.intro ?_ ?_); (next => (first | omega | (intros; first | omega | (refine ⟨by omega, ?_⟩; repeat (first | assumption | constructor)) | assumption))); intro _; try simp )
    | fail)
  refine CondK.intro (fun h1 => ?_) (fun h1 => ?_)
  · simp at h1
    simp [twoErr, h1]
  · simp at h1
    try simp 
    try simp 
    repeat' (first
      | (refine CallX.pure (validate_s h2) (by simp) (by simp) ?_; try simp )
      | (refine CallK.intro (validate_s h2) (by simp) (by simp) ?_; try simp )
      | (refine CallG.intro (fun _ => validate_s h2) (by simp) (by simp) ?_; try simp )
      | ((with_reducible refine PreK.intro ?_ ?_); (next => (first | omega | (intros; first | omega | (refine ⟨by omega, ?_⟩; repeat (first | assumption | constructor)) | assumption))); intro _; try simp )
      | fail)
    simp [twoErr, h1]
def andL (a b : List Int) : List Bool := [mayS a (-1) && mayS b (-1), mayS a 0 && mayS b 0, mayS a 1 && mayS b 1, mayS a 2 && mayS b 2, mayS a 3 && mayS b 3, mayS a 4 && mayS b 4, mayS a 5 && mayS b 5]
@[simp] theorem andL_length (a b : List Int) : (andL a b).length = 7 := rfl
@[simp] theorem sideL_length (a : List Int) : (sideL a).length = 7 := rfl
theorem big_of {n : Nat} (h : n ≤ 1000) : n ≤ big := by simp only [big]; omega
theorem and_s (a b : List Int) : CallP Try.prog 201 [sideV (sideL a), sideV (sideL b)] (sideV (andL a b)) := and_c _ _ _ _ _ _ _ _ _ _ _ _ _ _
theorem both_c (r s : Rule) (h : r.small) (h2 : s.small) : CallP Try.prog 148 [ruleV r, ruleV s] (.tup [sideV (andL r.left s.left), sideV (andL r.right s.right)]) := by
  refine C148 (by simp) ?_
  simp [A148]
  refine CallK.intro (by simpa using of_c r.left (big_of h.2.1)) (by simp) (by simp) ?_
  try simp 
  refine CallK.intro (by simpa using of_c s.left (big_of h2.2.1)) (by simp) (by simp) ?_
  try simp 
  refine CallK.intro (by simpa using and_s r.left s.left) (by simp) (by simp) ?_
  try simp 
  refine CallK.intro (by simpa using of_c r.right (big_of h.2.2)) (by simp) (by simp) ?_
  try simp 
  refine CallK.intro (by simpa using of_c s.right (big_of h2.2.2)) (by simp) (by simp) ?_
  try simp 
  refine CallK.intro (by simpa using and_s r.right s.right) (by simp) (by simp) ?_
  try simp 
  try simp 
  repeat' (first
    | ((with_reducible refine PreK.intro ?_ ?_); (next => (first | omega | (intros; first | omega | (refine ⟨by omega, ?_⟩; repeat (first | assumption | constructor)) | assumption))); intro _; try simp )
    | fail)
theorem and_self_eq (a b : Bool) : ((a && b) == a) = (!a || b) := by cases a <;> cases b <;> rfl
theorem IsSpecial_c (r s : Rule) (h : r.small) (h2 : s.small) : CallP Try.prog 63 [ruleV r, ruleV s] (.tup [bv (specM r s), iv (twoErr r s)]) := by
  refine C63 (by simp) ?_
  simp [A63]
  try simp 
  repeat' (first
    | (refine CallX.pure (two_c r s h h2) (by simp) (by simp) ?_; try simp )
    | (refine CallK.intro (two_c r s h h2) (by simp) (by simp) ?_; try simp )
    | (refine CallG.intro (fun _ => two_c r s h h2) (by simp) (by simp) ?_; try simp )
    | ((with_reducible refine PreK.intro ?_ ?_); (next => (first | omega | (intros; first | omega | (refine ⟨by omega, ?_⟩; repeat (first | assumption | constructor)) | assumption))); intro _; try simp )
    | fail)
  refine CondK.intro (fun h1 => ?_) (fun h1 => ?_)
  · simp at h1
    simp [specM, h1]
  · simp at h1
    try simp 
    repeat' (first
      | (refine CallX.pure (both_c r s h h2) (by simp) (by simp) ?_; try simp )
      | (refine CallK.intro (both_c r s h h2) (by simp) (by simp) ?_; try simp )
      | (refine CallG.intro (fun _ => both_c r s h h2) (by simp) (by simp) ?_; try simp )
      | ((with_reducible refine PreK.intro ?_ ?_); (next => (first | omega | (intros; first | omega | (refine ⟨by omega, ?_⟩; repeat (first | assumption | constructor)) | assumption))); intro _; try simp )
      | fail)
    try simp [andL, sideL]
    repeat' (first
      | (refine CallX.pure (of_c r.left (big_of h.2.1)) (by simp) (by simp) ?_; try simp [andL, sideL])
      | (refine CallK.intro (of_c r.left (big_of h.2.1)) (by simp) (by simp) ?_; try simp [andL, sideL])
      | (refine CallG.intro (fun _ => of_c r.left (big_of h.2.1)) (by simp) (by simp) ?_; try simp [andL, sideL])
      | (refine CallX.pure (of_c r.right (big_of h.2.2)) (by simp) (by simp) ?_; try simp [andL, sideL])
      | (refine CallK.intro (of_c r.right (big_of h.2.2)) (by simp) (by simp) ?_; try simp [andL, sideL])
      | (refine CallG.intro (fun _ => of_c r.right (big_of h.2.2)) (by simp) (by simp) ?_; try simp [andL, sideL])
      | ((with_reducible refine PreK.intro ?_ ?_); (next => (first | omega | (intros; first | omega | (refine ⟨by omega, ?_⟩; repeat (first | assumption | constructor)) | assumption))); intro _; try simp [andL, sideL])
      | fail)
    simp [specM, h1, insideM, mayAll, and_self_eq, Bool.and_assoc]
end Go.Proofs.Ytaooenmkofjafaa
end

section
/- Contracts: candidates and grounds. -/
namespace Go.Proofs.Ytaooenmkofjafaa
open Go.Abs Go
set_option maxRecDepth 20000
set_option maxHeartbeats 2000000
attribute [local irreducible] PreK CondK CallK CallG CallX LoopK
attribute [local simp] avsEq avEq akind teq vkind vEq

/-- A step with its rule. -/
structure Cand where
  step : Step
  rule : Rule
@[simp] def candV (c : Cand) : AV := .agg [iv c.step.rule, iv c.step.place, iv c.rule.frm, ints c.rule.to, ints c.rule.left, ints c.rule.right]
def Cand.small (c : Cand) : Prop := c.rule.small ∧ 0 ≤ c.step.place ∧ c.step.place ≤ 1000
theorem applyM_len (r : Rule) (w : List Int) (p : Int) : (applyM r w p).1.length ≤ 8 := by
  unfold applyM
  split
  · simp
  · split
    · simp
    · split
      · simp
      · rename_i h; simpa using h
theorem isSpecial_c (a b : Cand) (ha : a.small) (hb : b.small) : CallP Try.prog 222 [candV a, candV b] (bv (specM a.rule b.rule && !specM b.rule a.rule)) := by
  refine C222 (by simp) ?_
  simp [A222]
  refine CallX.pure (by simpa using IsSpecial_c a.rule b.rule ha.1 hb.1) (by simp) (by simp) ?_
  try simp 
  refine CallX.pure (by simpa using IsSpecial_c b.rule a.rule hb.1 ha.1) (by simp) (by simp) ?_
  try simp 
  try simp
theorem lasts_c (w : List Int) (a b : Cand) (hw : w.length ≤ 1000) (ha : a.small) (hb : b.small) : CallP Try.prog 119 [ints w, candV a, candV b] (bv (lastsM w a.rule a.step b.rule b.step)) := by
  refine C119 (by simp) ?_
  have hl := applyM_len b.rule w b.step.place
  have ht := hb.1.1
  obtain ⟨ha1, ha2, ha3⟩ := ha
  have hw2 : (applyM b.rule w b.step.place).1.length ≤ 1000 := by omega
  simp [A119]
  try simp 
  repeat' (first
    | (refine CallX.pure (Apply_c b.rule w b.step.place hb.1 hw) (by simp) (by simp) ?_; try simp )
    | (refine CallK.intro (Apply_c b.rule w b.step.place hb.1 hw) (by simp) (by simp) ?_; try simp )
    | (refine CallG.intro (fun _ => Apply_c b.rule w b.step.place hb.1 hw) (by simp) (by simp) ?_; try simp )
    | ((with_reducible refine PreK.intro ?_ ?_); (next => (first | omega | (intros; first | omega | (refine ⟨by omega, ?_⟩; repeat (first | assumption | constructor)) | assumption))); intro _; try simp )
    | fail)
  refine CondK.intro (fun h1 => ?_) (fun h1 => ?_)
  · simp at h1
    try simp 
    repeat' (first
      | ((with_reducible refine PreK.intro ?_ ?_); (next => (first | omega | (intros; first | omega | (refine ⟨by omega, ?_⟩; repeat (first | assumption | constructor)) | assumption))); intro _; try simp )
      | fail)
    refine CondK.intro (fun h2 => ?_) (fun h2 => ?_)
    · simp at h2
      try simp 
      repeat' (first
        | (refine CallX.pure (Apply_c a.rule (applyM b.rule w b.step.place).1 (a.step.place + b.rule.to.length - 1) ha1 hw2) (by simp) (by simp) ?_; try simp )
        | (refine CallK.intro (Apply_c a.rule (applyM b.rule w b.step.place).1 (a.step.place + b.rule.to.length - 1) ha1 hw2) (by simp) (by simp) ?_; try simp )
        | (refine CallG.intro (fun _ => Apply_c a.rule (applyM b.rule w b.step.place).1 (a.step.place + b.rule.to.length - 1) ha1 hw2) (by simp) (by simp) ?_; try simp )
        | ((with_reducible refine PreK.intro ?_ ?_); (next => (first | omega | (intros; first | omega | (refine ⟨by omega, ?_⟩; repeat (first | assumption | constructor)) | assumption))); intro _; try simp )
        | fail)
      simp [lastsM, lastPlace, h1, h2]
    · simp at h2
      try simp 
      repeat' (first
        | (refine CallX.pure (Apply_c a.rule (applyM b.rule w b.step.place).1 (a.step.place + b.rule.to.length) ha1 hw2) (by simp) (by simp) ?_; try simp )
        | (refine CallK.intro (Apply_c a.rule (applyM b.rule w b.step.place).1 (a.step.place + b.rule.to.length) ha1 hw2) (by simp) (by simp) ?_; try simp )
        | (refine CallG.intro (fun _ => Apply_c a.rule (applyM b.rule w b.step.place).1 (a.step.place + b.rule.to.length) ha1 hw2) (by simp) (by simp) ?_; try simp )
        | ((with_reducible refine PreK.intro ?_ ?_); (next => (first | omega | (intros; first | omega | (refine ⟨by omega, ?_⟩; repeat (first | assumption | constructor)) | assumption))); intro _; try simp )
        | fail)
      have h3 : ¬ 0 ≤ b.rule.frm := by omega
      simp [lastsM, lastPlace, h1, h3]
  · simp at h1
    try simp 
    repeat' (first
      | (refine CallX.pure (Apply_c a.rule (applyM b.rule w b.step.place).1 a.step.place ha1 hw2) (by simp) (by simp) ?_; try simp )
      | (refine CallK.intro (Apply_c a.rule (applyM b.rule w b.step.place).1 a.step.place ha1 hw2) (by simp) (by simp) ?_; try simp )
      | (refine CallG.intro (fun _ => Apply_c a.rule (applyM b.rule w b.step.place).1 a.step.place ha1 hw2) (by simp) (by simp) ?_; try simp )
      | ((with_reducible refine PreK.intro ?_ ?_); (next => (first | omega | (intros; first | omega | (refine ⟨by omega, ?_⟩; repeat (first | assumption | constructor)) | assumption))); intro _; try simp )
      | fail)
    have h3 : ¬ b.step.place < a.step.place := by omega
    simp [lastsM, lastPlace, h3]
theorem reason1_c (w : List Int) (a b : Cand) (ha : a.small) (hb : b.small) : CallP Try.prog 221 [ints w, candV a, candV b] (bv (proM w 1 a.rule a.step b.rule b.step)) := by
  refine C221 (by simp) ?_
  simp [A221]
  try simp 
  repeat' (first
    | (refine CallX.pure (isSpecial_c a b ha hb) (by simp) (by simp) ?_; try simp )
    | (refine CallK.intro (isSpecial_c a b ha hb) (by simp) (by simp) ?_; try simp )
    | (refine CallG.intro (fun _ => isSpecial_c a b ha hb) (by simp) (by simp) ?_; try simp )
    | ((with_reducible refine PreK.intro ?_ ?_); (next => (first | omega | (intros; first | omega | (refine ⟨by omega, ?_⟩; repeat (first | assumption | constructor)) | assumption))); intro _; try simp )
    | fail)
  simp [proM]
theorem reason2_c (w : List Int) (a b : Cand) (hw : w.length ≤ 1000) (ha : a.small) (hb : b.small) : CallP Try.prog 223 [ints w, candV a, candV b] (bv (proM w 2 a.rule a.step b.rule b.step)) := by
  refine C223 (by simp) ?_
  simp [A223]
  try simp 
  repeat' (first
    | (refine CallX.pure (lasts_c w a b hw ha hb) (by simp) (by simp) ?_; try simp )
    | (refine CallK.intro (lasts_c w a b hw ha hb) (by simp) (by simp) ?_; try simp )
    | (refine CallG.intro (fun _ => lasts_c w a b hw ha hb) (by simp) (by simp) ?_; try simp )
    | (refine CallX.pure (lasts_c w b a hw hb ha) (by simp) (by simp) ?_; try simp )
    | (refine CallK.intro (lasts_c w b a hw hb ha) (by simp) (by simp) ?_; try simp )
    | (refine CallG.intro (fun _ => lasts_c w b a hw hb ha) (by simp) (by simp) ?_; try simp )
    | ((with_reducible refine PreK.intro ?_ ?_); (next => (first | omega | (intros; first | omega | (refine ⟨by omega, ?_⟩; repeat (first | assumption | constructor)) | assumption))); intro _; try simp )
    | fail)
  simp [proM]
theorem reason3_c (w : List Int) (a b : Cand) : CallP Try.prog 224 [ints w, candV a, candV b] (bv (proM w 3 a.rule a.step b.rule b.step)) := by
  refine C224 (by simp) ?_
  simp [A224]
  try simp [proM]
theorem reason4_c (w : List Int) (a b : Cand) : CallP Try.prog 225 [ints w, candV a, candV b] (bv (proM w 4 a.rule a.step b.rule b.step)) := by
  refine C225 (by simp) ?_
  simp [A225]
  try simp [proM]
theorem reasons_c : CallP Try.prog 188 [] (.agg [.fn 221 [] [], .fn 223 [] [], .fn 224 [] [], .fn 225 [] []]) := by
  refine C188 (by simp) ?_
  simp [A188]
theorem reason_c (w : List Int) (a b : Cand) (hw : w.length ≤ 1000) (ha : a.small) (hb : b.small) (g : Int) (hg : g = 1 ∨ g = 2 ∨ g = 3 ∨ g = 4) :
    CallP Try.prog (if g = 1 then 221 else if g = 2 then 223 else if g = 3 then 224 else 225) [ints w, candV a, candV b] (bv (proM w g a.rule a.step b.rule b.step)) := by
  rcases hg with rfl | rfl | rfl | rfl
  · exact reason1_c w a b ha hb
  · exact reason2_c w a b hw ha hb
  · exact reason3_c w a b
  · exact reason4_c w a b
end Go.Proofs.Ytaooenmkofjafaa
end

section
/- Contracts: grounds, part 2. -/
namespace Go.Proofs.Ytaooenmkofjafaa
open Go.Abs Go
set_option maxRecDepth 20000
set_option maxHeartbeats 2000000
attribute [local irreducible] PreK CondK CallK CallG CallX LoopK
attribute [local simp] avsEq avEq akind teq vkind vEq T_128

theorem decide_c (w : List Int) (g : Int) (a b : Cand) (hw : w.length ≤ 1000) (ha : a.small) (hb : b.small) (hg : g = 1 ∨ g = 2 ∨ g = 3 ∨ g = 4) :
    CallP Try.prog 125 [ints w, iv g, candV a, candV b] (iv (decideM w g a.rule a.step b.rule b.step)) := by
  have h1 := reason_c w a b hw ha hb g hg
  have h2 := reason_c w b a hw hb ha g hg
  refine C125 (by simp) ?_
  unfold decideM
  generalize proM w g a.rule a.step b.rule b.step = x at h1 ⊢
  generalize proM w g b.rule b.step a.rule a.step = y at h2 ⊢
  rcases hg with rfl | rfl | rfl | rfl
  all_goals
    simp at h1 h2
    simp [A125]
    refine CallX.pure (by simpa using reasons_c) (by simp) (by simp) ?_
    try simp 
    refine CallX.pure (by simpa using h1) (by simp) (by simp) ?_
    try simp 
    refine CondK.intro (fun h3 => ?_) (fun h3 => ?_)
    · try simp at h3
      simp [h3]
    · try simp at h3
      try simp 
      refine CallX.pure (by simpa using h2) (by simp) (by simp) ?_
      try simp 
      refine CondK.intro (fun h4 => ?_) (fun h4 => ?_)
      · try simp at h4
        simp [h3, h4]
      · try simp at h4
        simp [h3, h4]
theorem decideM_cases (w : List Int) (g : Int) (ra : Rule) (a : Step) (rb : Rule) (b : Step) : decideM w g ra a rb b = 1 ∨ decideM w g ra a rb b = -1 ∨ decideM w g ra a rb b = 0 := by
  unfold decideM; split
  · simp
  · split <;> simp
def gOK (gs : List Int) : Prop := ∀ g ∈ gs, g = 1 ∨ g = 2 ∨ g = 3 ∨ g = 4
theorem beats_c (w gs : List Int) (a b : Cand) (hw : w.length ≤ 1000) (hg : gOK gs) (hgl : gs.length ≤ 1000) (ha : a.small) (hb : b.small) :
    CallP Try.prog 123 [ints w, ints gs, candV a, candV b] (iv (beatsM w gs a.rule a.step b.rule b.step)) := by
  refine C123 (by simp) ?_
  generalize hR : beatsM w gs a.rule a.step b.rule b.step = R
  simp [A123]
  refine LoopK.by (fun i : Nat => ⟨[(14, iv i), (13, iv gs.length), (12, ints gs), (0, ints w), (6, .pt 6 1 0 0), (7, .pt 7 1 0 0)], [(6, some ⟨6, [candV a], 1, true⟩), (7, some ⟨6, [candV b], 1, true⟩)]⟩) (fun i => gs.length - i)
    (fun i => i ≤ gs.length ∧ beatsM w (gs.drop i) a.rule a.step b.rule b.step = R) 0 (by simpa using hR) (by simp) ?_
  intro i Q' ⟨hi, hc⟩ hq he hr
  try simp 
  refine CondK.intro (fun h1 => ?_) (fun h1 => ?_)
  · simp at h1
    rw [drop_cons gs i h1, beatsM] at hc
    have hgi := hg (el gs i) (by rw [el_eq gs i h1]; exact List.getElem_mem h1)
    have hd := decideM_cases w (el gs i) a.rule a.step b.rule b.step
    simp [h1]
    try simp 
    repeat' (first
      | (refine CallX.pure (decide_c w (el gs i) a b hw ha hb hgi) (by simp) (by simp) ?_; try simp )
      | (refine CallK.intro (decide_c w (el gs i) a b hw ha hb hgi) (by simp) (by simp) ?_; try simp )
      | (refine CallG.intro (fun _ => decide_c w (el gs i) a b hw ha hb hgi) (by simp) (by simp) ?_; try simp )
      | ((with_reducible refine PreK.intro ?_ ?_); (next => (first | omega | (intros; first | omega | (refine ⟨by omega, ?_⟩; repeat (first | assumption | constructor)) | assumption))); intro _; try simp )
      | fail)
    refine CondK.intro (fun h2 => ?_) (fun h2 => ?_)
    · simp at h2
      simp [h2] at hc
      try simp 
      refine PreK.intro (by rcases hd with e | e | e <;> rw [e] <;> omega) fun _ => ?_
      try simp 
      apply hr
      simp [hc]
    · simp at h2
      simp [h2] at hc
      try simp 
      repeat' (first
        | ((with_reducible refine PreK.intro ?_ ?_); (next => (first | omega | (intros; first | omega | (refine ⟨by omega, ?_⟩; repeat (first | assumption | constructor)) | assumption))); intro _; try simp )
        | fail)
      exact hq (i + 1) _ ⟨by omega, hc⟩ (by omega) (by simp)
  · simp at h1
    rw [List.drop_eq_nil_of_le (by omega)] at hc
    simp [beatsM] at hc
    try simp 
    apply he
    simp [hc]
end Go.Proofs.Ytaooenmkofjafaa
end

section
/- Contracts: who wins. -/
namespace Go.Proofs.Ytaooenmkofjafaa
open Go.Abs Go
set_option maxRecDepth 20000
set_option maxHeartbeats 2000000
attribute [local irreducible] PreK CondK CallK CallG CallX LoopK
attribute [local simp] avsEq avEq akind teq vkind vEq

/-- A step with its rule in a system, as the program holds it. -/
def candS (s : List Rule) (x : Step) : AV := candV ⟨x, el s x.rule.toNat⟩
theorem candS_eq (s : List Rule) (x : Step) : candS s x = .agg [iv x.rule, iv x.place, iv (el s x.rule.toNat).frm, ints (el s x.rule.toNat).to, ints (el s x.rule.toNat).left, ints (el s x.rule.toNat).right] := rfl
@[simp] theorem nth_cand (s : List Rule) (l : List Step) (k : Nat) (h : k < l.length) : nth (l.map (candS s)) k = candV ⟨el l k, el s (el l k).rule.toNat⟩ := nth_map (candS s) l k h
@[simp] def candsV (s : List Rule) (l : List Step) : AV := .seq 6 (l.map (candS s)) false
def stepOK (s : List Rule) (x : Step) : Prop := 0 ≤ x.rule ∧ x.rule < s.length ∧ 0 ≤ x.place ∧ x.place ≤ 8
theorem stepOK.small {s : List Rule} {x : Step} (h : stepOK s x) (hs : Sys.small s) : Cand.small ⟨x, el s x.rule.toNat⟩ := ⟨hs.el (by have := h.1; have := h.2.1; omega), h.2.2.1, by have := h.2.2.2; simp only; omega⟩
theorem movesR_ok {s : List Rule} {w : List Int} {r : Rule} {k : Nat} (hk : k < s.length) (hw : w.length ≤ 8) : ∀ (n i : Nat), i + n ≤ w.length + 1 → ∀ m ∈ movesR r w k i n, stepOK s m.step
  | 0, i, _, m, hm => by simp [movesR] at hm
  | n + 1, i, hi, m, hm => by
    rw [movesR, List.mem_append] at hm
    rcases hm with hm | hm
    · unfold moveAt at hm
      split at hm
      · simp only [List.mem_cons, List.not_mem_nil, or_false] at hm
        subst hm
        exact ⟨by simp, by simp; omega, by simp, by simp; omega⟩
      · cases hm
    · exact movesR_ok hk hw n (i + 1) (by omega) m hm
theorem movesF_ok {s : List Rule} {w : List Int} (hw : w.length ≤ 8) : ∀ (l : List Rule) (k : Nat), k + l.length ≤ s.length → ∀ m ∈ movesF w k l, stepOK s m.step
  | [], k, _, m, hm => by simp [movesF] at hm
  | r :: l, k, hk, m, hm => by
    rw [movesF, List.mem_append] at hm
    simp only [List.length_cons] at hk
    rcases hm with hm | hm
    · exact movesR_ok (by omega) hw _ 0 (by omega) m hm
    · exact movesF_ok hw l (k + 1) (by omega) m hm
theorem stepsM_ok {s : List Rule} {w : List Int} : ∀ x ∈ stepsM s w, stepOK s x := by
  intro x hx
  unfold stepsM at hx
  by_cases h : swErr s w = 0
  · simp only [h, ne_eq, not_true, if_false, List.mem_map] at hx
    obtain ⟨m, hm, rfl⟩ := hx
    exact movesF_ok (wordErr_zero (swErr_zero h).2).1 s 0 (by omega) m hm
  · simp [h] at hx
theorem stepsM_len {s : List Rule} {w : List Int} : (stepsM s w).length ≤ 54 := by
  unfold stepsM
  by_cases h : swErr s w = 0
  · have := movesM_len (swErr_zero h).1 (swErr_zero h).2
    simpa [h] using this
  · simp [h]
theorem candidates_c (s : List Rule) (w : List Int) (h : Sys.small s) (hw : w.length ≤ 1000) : CallP Try.prog 113 [rulesV s, ints w] (candsV s (stepsM s w)) := by
  refine C113 (by simp) ?_
  have hok : ∀ x ∈ stepsM s w, stepOK s x := stepsM_ok
  have hlen : (stepsM s w).length ≤ 54 := stepsM_len
  have hst := Steps_c s w h hw
  simp [A113]
  generalize stepsM s w = R at hst hok hlen
  try simp 
  repeat' (first
    | (refine CallX.pure (hst) (by simp) (by simp) ?_; try simp )
    | (refine CallK.intro (hst) (by simp) (by simp) ?_; try simp )
    | (refine CallG.intro (fun _ => hst) (by simp) (by simp) ?_; try simp )
    | ((with_reducible refine PreK.intro ?_ ?_); (next => (first | omega | (intros; first | omega | (refine ⟨by omega, ?_⟩; repeat (first | assumption | constructor)) | assumption))); intro _; try simp )
    | fail)
  refine LoopK.by (ι := Nat × Nat × List Step) (fun i => ⟨[(18, iv i.1), (17, iv R.length), (16, stepsV R), (0, rulesV s), (5, .sl 5 i.2.1 0 i.2.2.length)], [(5, some ⟨6, i.2.2.map (candS s), i.2.1, false⟩)]⟩) (fun i => R.length - i.1)
    (fun i => i.1 ≤ R.length ∧ i.2.2.length ≤ i.1 ∧ i.2.2 ++ R.drop i.1 = R) (0, 1, []) (by simp) (by simp) ?_
  intro ⟨i, ver, acc⟩ Q' ⟨hi, ha, hc⟩ hq he hr
  dsimp only at hi ha hc
  try simp 
  refine CondK.intro (fun h4 => ?_) (fun h4 => ?_)
  · simp at h4
    obtain ⟨o1, o2, o3, o4⟩ := hok (el R i) (by rw [el_eq R i h4]; exact List.getElem_mem h4)
    rw [drop_cons R i h4] at hc
    have o5 : (el R i).rule.toNat < s.length := by omega
    simp [h4]
    try simp [o5]
    repeat' (first
      | ((with_reducible refine PreK.intro ?_ ?_); (next => (first | omega | (intros; first | omega | (refine ⟨by omega, ?_⟩; repeat (first | assumption | constructor)) | assumption))); intro _; try simp [o5])
      | fail)
    exact hq (i + 1, ver + 1, acc ++ [el R i]) _ ⟨by dsimp only; omega, by simp; omega, by simpa using hc⟩ (by dsimp only; omega) (by simp [candS_eq])
  · simp at h4
    rw [List.drop_eq_nil_of_le (by omega)] at hc
    simp at hc
    try simp 
    apply he
    simp [hc]
end Go.Proofs.Ytaooenmkofjafaa
end

section
/- Contracts: the champion and the choice. -/
namespace Go.Proofs.Ytaooenmkofjafaa
open Go.Abs Go
set_option maxRecDepth 20000
set_option maxHeartbeats 2000000
attribute [local irreducible] PreK CondK CallK CallG CallX LoopK
attribute [local simp] avsEq avEq akind teq vkind vEq

/-- The first place at which p holds, or -1. -/
def idxG {α : Type} (p : α → Bool) : Nat → List α → Int
  | _, [] => -1
  | k, x :: r => if p x then k else idxG p (k + 1) r
theorem idxG_none {α : Type} (p : α → Bool) : ∀ (l : List α) (k : Nat), (∀ x ∈ l, p x = false) → idxG p k l = -1
  | [], _, _ => rfl
  | x :: r, k, h => by simp [idxG, h x (by simp), idxG_none p r (k + 1) (fun y hy => h y (by simp [hy]))]
theorem idxG_find {α : Type} [Inhabited α] (p : α → Bool) : ∀ (l : List α) (k : Nat) (a : α), l.find? p = some a → ∃ i, i < l.length ∧ idxG p k l = (k + i : Nat) ∧ el l i = a
  | [], _, _, h => by cases h
  | x :: r, k, a, h => by
    by_cases hx : p x = true
    · simp [List.find?, hx] at h
      exact ⟨0, by simp, by simp [idxG, hx], by simp [el, h]⟩
    · have hx' : p x = false := by simpa using hx
      simp only [List.find?, hx'] at h
      obtain ⟨i, h1, h2, h3⟩ := idxG_find p r (k + 1) a h
      refine ⟨i + 1, by simp; omega, ?_, ?_⟩
      · simp only [idxG, hx', Bool.false_eq_true, if_false, h2]; omega
      · rw [← h3]; simp [el]
theorem cIndexFunc_c (s : List Rule) (l : List Step) (hl : l.length ≤ 1000) (f : FuncId) (cap : List AV) (p : Step → Bool) (hp : ∀ x ∈ l, CallP Try.prog f (candS s x :: cap) (bv (p x))) (h1 : ∀ m, snapL m cap = cap) (h2 : AV.refsL cap = []) (h3 : ∀ m, snapOKL m cap) :
    CallP Try.prog 184 [candsV s l, .fn f [] cap] (iv (idxG p 0 l)) := by
  refine C184 (by simp) ?_
  generalize hR : idxG p 0 l = R
  simp [A184]
  refine LoopK.by (fun i : Nat => ⟨[(8, iv i), (7, iv l.length), (0, candsV s l), (1, .fn f [] cap)], []⟩) (fun i => l.length - i) (fun i => i ≤ l.length ∧ idxG p i (l.drop i) = R) 0 (by simpa using hR) (by simp [h2]) ?_
  intro i Q' ⟨hi, hc⟩ hq he hr
  try simp 
  refine CondK.intro (fun h => ?_) (fun h => ?_)
  · simp at h
    have hpi := hp (el l i) (by rw [el_eq l i h]; exact List.getElem_mem h)
    rw [candS_eq] at hpi
    rw [drop_cons l i h] at hc
    simp [h]
    refine CallX.pure (by simpa [h1] using hpi) (by simp [h3]) (by simp) ?_
    try simp 
    refine CondK.intro (fun h4 => ?_) (fun h4 => ?_)
    · simp [idxG, h4] at hc
      try simp 
      apply hr
      simp [hc]
    · simp [idxG, h4] at hc
      try simp 
      repeat' (first
        | ((with_reducible refine PreK.intro ?_ ?_); (next => (first | omega | (intros; first | omega | (refine ⟨by omega, ?_⟩; repeat (first | assumption | constructor)) | assumption))); intro _; try simp )
        | fail)
      exact hq (i + 1) _ ⟨by omega, hc⟩ (by omega) (by simp [h2])
  · simp at h
    rw [List.drop_eq_nil_of_le (by omega)] at hc
    simp [idxG] at hc
    try simp 
    apply he
    simp [hc]
theorem step_eq (a b : Step) : (a = b) ↔ (a.rule = b.rule ∧ a.place = b.place) := by
  cases a; cases b; simp
theorem choice1_c (c b : Cand) : CallP Try.prog 185 [candV c, .ipt (candV b) 0] (bv (decide (c.step ≠ b.step))) := by
  refine C185 (by simp) ?_
  simp [A185]
  rw [Bool.eq_iff_iff]; simp [step_eq]
end Go.Proofs.Ytaooenmkofjafaa
end

section
/- Contracts: the champion, the choice, the derivation. -/
namespace Go.Proofs.Ytaooenmkofjafaa
open Go.Abs Go
set_option maxRecDepth 20000
set_option maxHeartbeats 2000000
attribute [local irreducible] PreK CondK CallK CallG CallX LoopK
attribute [local simp] avsEq avEq akind teq vkind vEq candS_eq

@[simp] def candZ : AV := .agg [iv 0, iv 0, iv 0, .seq 1 [] false, .seq 1 [] false, .seq 1 [] false]
@[simp] def candZ0 : AV := .agg [iv 0, iv 0, iv 0, .seq 1 [] true, .seq 1 [] true, .seq 1 [] true]
theorem topOf_drop (s : List Rule) (w gs : List Int) (a : Step) (l : List Step) (i : Nat) (h : i < l.length) :
    topOf s w gs (l.drop i) a = ((decide (el l i = a) || decide (0 < beatsS s w gs a (el l i))) && topOf s w gs (l.drop (i + 1)) a) := by
  unfold topOf; rw [drop_cons l i h, List.all_cons]
theorem champ_drop (s : List Rule) (w gs : List Int) (a : Step) (l : List Step) (i : Nat) (h : i < l.length) :
    champ s w gs a (l.drop i) = champ s w gs (if beatsS s w gs a (el l i) ≤ 0 then el l i else a) (l.drop (i + 1)) := by
  rw [drop_cons l i h, champ]
theorem champion_c (s : List Rule) (w gs : List Int) (x : Step) (xs : List Step) (hs : Sys.small s) (hw : w.length ≤ 1000) (hg : gOK gs) (hgl : gs.length ≤ 1000) (hl : xs.length ≤ 100) (hok : ∀ y ∈ x :: xs, stepOK s y) :
    CallP Try.prog 114 [ints w, ints gs, candsV s (x :: xs)]
      (.tup [if topOf s w gs (x :: xs) (champ s w gs x xs) then candS s (champ s w gs x xs) else candZ, bv (topOf s w gs (x :: xs) (champ s w gs x xs))]) := by
  refine C114 (by simp) ?_
  generalize hR : champ s w gs x xs = R
  simp [A114]
  try simp 
  repeat' (first
    | ((with_reducible refine PreK.intro ?_ ?_); (next => (first | omega | (intros; first | omega | (refine ⟨by omega, ?_⟩; repeat (first | assumption | constructor)) | assumption))); intro _; try simp )
    | fail)
  refine LoopK.by (ι := Nat × Step) (fun i => ⟨[(19, iv i.1), (18, iv xs.length), (17, candsV s xs), (0, ints w), (1, ints gs), (2, candsV s (x :: xs)), (6, .pt 6 1 0 0), (8, .pt 8 1 0 0)], [(8, some ⟨6, [candS s i.2], 1, true⟩), (6, some ⟨6, [candZ0], 1, true⟩)]⟩) (fun i => xs.length - i.1)
    (fun i => i.1 ≤ xs.length ∧ stepOK s i.2 ∧ champ s w gs i.2 (xs.drop i.1) = R) (0, x) (by simp; exact ⟨hok x (by simp), hR⟩) (by simp) ?_
  intro ⟨i, b⟩ Q' ⟨hi, hb, hc⟩ hq he hr
  dsimp only at hi hb hc
  try simp 
  refine CondK.intro (fun h1 => ?_) (fun h1 => ?_)
  · simp at h1
    have hxi := hok (el xs i) (by rw [el_eq xs i h1]; simp)
    rw [champ_drop s w gs b xs i h1] at hc
    have hbt := beats_c w gs ⟨b, el s b.rule.toNat⟩ ⟨el xs i, el s (el xs i).rule.toNat⟩ hw hg hgl (hb.small hs) (hxi.small hs)
    have hbe : beatsM w gs (el s b.rule.toNat) b (el s (el xs i).rule.toNat) (el xs i) = beatsS s w gs b (el xs i) := rfl
    dsimp only at hbt
    rw [hbe] at hbt
    simp [h1]
    try simp 
    repeat' (first
      | (refine CallX.pure (hbt) (by simp) (by simp) ?_; try simp )
      | (refine CallK.intro (hbt) (by simp) (by simp) ?_; try simp )
      | (refine CallG.intro (fun _ => hbt) (by simp) (by simp) ?_; try simp )
      | ((with_reducible refine PreK.intro ?_ ?_); (next => (first | omega | (intros; first | omega | (refine ⟨by omega, ?_⟩; repeat (first | assumption | constructor)) | assumption))); intro _; try simp )
      | fail)
    refine CondK.intro (fun h2 => ?_) (fun h2 => ?_)
    · simp at h2
      rw [if_pos h2] at hc
      try simp 
      repeat' (first
        | ((with_reducible refine PreK.intro ?_ ?_); (next => (first | omega | (intros; first | omega | (refine ⟨by omega, ?_⟩; repeat (first | assumption | constructor)) | assumption))); intro _; try simp )
        | fail)
      exact hq (i + 1, el xs i) _ ⟨by dsimp only; omega, hxi, hc⟩ (by dsimp only; omega) (by simp)
    · simp at h2
      rw [if_neg (by omega)] at hc
      try simp 
      repeat' (first
        | ((with_reducible refine PreK.intro ?_ ?_); (next => (first | omega | (intros; first | omega | (refine ⟨by omega, ?_⟩; repeat (first | assumption | constructor)) | assumption))); intro _; try simp )
        | fail)
      exact hq (i + 1, b) _ ⟨by dsimp only; omega, hb, hc⟩ (by dsimp only; omega) (by simp)
  · simp at h1
    rw [List.drop_eq_nil_of_le (by omega), champ] at hc
    subst hc
    try simp 
    apply he
    try simp 
    clear hq he hr
    generalize hR2 : topOf s w gs (x :: xs) b = R2
    have hall := hok
    generalize hl2 : x :: xs = l at hR2 hall
    have hll : l.length ≤ 101 := by rw [← hl2]; simp; omega
    refine LoopK.by (fun i : Nat => ⟨[(33, iv i), (32, iv l.length), (31, candsV s l), (0, ints w), (1, ints gs), (6, .pt 6 1 0 0), (8, .pt 8 1 0 0)], [(8, some ⟨6, [candS s b], 1, true⟩), (6, some ⟨6, [candZ0], 1, true⟩)]⟩) (fun i => l.length - i)
      (fun i => i ≤ l.length ∧ topOf s w gs (l.drop i) b = R2) 0 (by simpa using hR2) (by rw [← hl2]; simp) ?_
    intro j Q'' ⟨hj, hc⟩ hq he hr
    try simp 
    refine CondK.intro (fun h3 => ?_) (fun h3 => ?_)
    · simp at h3
      have hxi := hall (el l j) (by rw [el_eq l j h3]; simp)
      rw [topOf_drop s w gs b l j h3] at hc
      have hbt := beats_c w gs ⟨b, el s b.rule.toNat⟩ ⟨el l j, el s (el l j).rule.toNat⟩ hw hg hgl (hb.small hs) (hxi.small hs)
      have hbe : beatsM w gs (el s b.rule.toNat) b (el s (el l j).rule.toNat) (el l j) = beatsS s w gs b (el l j) := rfl
      dsimp only at hbt
      rw [hbe] at hbt
      simp [h3]
      try simp 
      repeat' (first
        | (refine CallX.pure (hbt) (by simp) (by simp) ?_; try simp )
        | (refine CallK.intro (hbt) (by simp) (by simp) ?_; try simp )
        | (refine CallG.intro (fun _ => hbt) (by simp) (by simp) ?_; try simp )
        | ((with_reducible refine PreK.intro ?_ ?_); (next => (first | omega | (intros; first | omega | (refine ⟨by omega, ?_⟩; repeat (first | assumption | constructor)) | assumption))); intro _; try simp )
        | fail)
      have hcond : ((!decide ((el l j).rule = b.rule) || !decide ((el l j).place = b.place)) && decide (beatsS s w gs b (el l j) ≤ 0)) = !(decide (el l j = b) || decide (0 < beatsS s w gs b (el l j))) := by
        have e1 : decide (el l j = b) = (decide ((el l j).rule = b.rule) && decide ((el l j).place = b.place)) := by rw [Bool.eq_iff_iff]; simp [step_eq]
        have e2 : decide (beatsS s w gs b (el l j) ≤ 0) = !decide (0 < beatsS s w gs b (el l j)) := by rw [Bool.eq_iff_iff]; simp
        rw [e1, e2]
        cases decide ((el l j).rule = b.rule) <;> cases decide ((el l j).place = b.place) <;> cases decide (0 < beatsS s w gs b (el l j)) <;> rfl
      rw [hcond]
      generalize (decide (el l j = b) || decide (0 < beatsS s w gs b (el l j))) = z at hc
      refine CondK.intro (fun h4 => ?_) (fun h4 => ?_)
      · have : z = false := by simpa using h4
        subst this
        simp at hc
        try simp 
        repeat' (first
          | ((with_reducible refine PreK.intro ?_ ?_); (next => (first | omega | (intros; first | omega | (refine ⟨by omega, ?_⟩; repeat (first | assumption | constructor)) | assumption))); intro _; try simp )
          | fail)
        apply hr
        simp [hc]
      · have : z = true := by simpa using h4
        subst this
        simp at hc
        try simp 
        repeat' (first
          | ((with_reducible refine PreK.intro ?_ ?_); (next => (first | omega | (intros; first | omega | (refine ⟨by omega, ?_⟩; repeat (first | assumption | constructor)) | assumption))); intro _; try simp )
          | fail)
        exact hq (j + 1) _ ⟨by omega, hc⟩ (by omega) (by simp)
    · simp at h3
      rw [List.drop_eq_nil_of_le (by omega)] at hc
      have hc2 : R2 = true := by rw [← hc]; rfl
      try simp 
      apply he
      simp [hc2]
theorem apply_c (s : List Rule) (w : List Int) (c : Choice) (hs : Sys.small s) (hw : w.length ≤ 1000) (h0 : 0 ≤ c.rule) (h1 : c.rule < s.length) : CallP Try.prog 117 [rulesV s, ints w, choiceV c] (ints (nextW s w c)) := by
  refine C117 (by simp) ?_
  have o5 : c.rule.toNat < s.length := by omega
  simp [A117]
  try simp [o5]
  repeat' (first
    | (refine CallX.pure (Apply_c (el s c.rule.toNat) w c.place (hs.el o5) hw) (by simp) (by simp) ?_; try simp [o5])
    | (refine CallK.intro (Apply_c (el s c.rule.toNat) w c.place (hs.el o5) hw) (by simp) (by simp) ?_; try simp [o5])
    | (refine CallG.intro (fun _ => Apply_c (el s c.rule.toNat) w c.place (hs.el o5) hw) (by simp) (by simp) ?_; try simp [o5])
    | ((with_reducible refine PreK.intro ?_ ?_); (next => (first | omega | (intros; first | omega | (refine ⟨by omega, ?_⟩; repeat (first | assumption | constructor)) | assumption))); intro _; try simp [o5])
    | fail)
  simp [nextW]
end Go.Proofs.Ytaooenmkofjafaa
end

section
/- Contracts: the choice and the derivation. -/
namespace Go.Proofs.Ytaooenmkofjafaa
open Go.Abs Go
set_option maxRecDepth 20000
set_option maxHeartbeats 2000000
attribute [local irreducible] PreK CondK CallK CallG CallX LoopK
attribute [local simp] avsEq avEq akind teq vkind vEq candS_eq

theorem choice_c (s : List Rule) (w gs : List Int) (hs : Sys.small s) (hw : w.length ≤ 1000) (hg : gOK gs) (hgl : gs.length ≤ 1000) :
    CallP Try.prog 111 [rulesV s, ints w, ints gs] (.tup [choiceV ((choiceM s w gs).getD ⟨0, 0, 0⟩), bv (choiceM s w gs).isSome]) := by
  refine C111 (by simp) ?_
  have hcd := candidates_c s w hs hw
  have hok : ∀ x ∈ stepsM s w, stepOK s x := stepsM_ok
  have hlen : (stepsM s w).length ≤ 54 := stepsM_len
  generalize hR : choiceM s w gs = R
  unfold choiceM at hR
  simp [A111]
  generalize stepsM s w = l at hcd hok hlen hR
  try simp 
  repeat' (first
    | (refine CallX.pure (hcd) (by simp) (by simp) ?_; try simp )
    | (refine CallK.intro (hcd) (by simp) (by simp) ?_; try simp )
    | (refine CallG.intro (fun _ => hcd) (by simp) (by simp) ?_; try simp )
    | ((with_reducible refine PreK.intro ?_ ?_); (next => (first | omega | (intros; first | omega | (refine ⟨by omega, ?_⟩; repeat (first | assumption | constructor)) | assumption))); intro _; try simp )
    | fail)
  match l with
  | [] =>
    dsimp only at hR
    subst hR
    try simp 
    repeat' (first
      | ((with_reducible refine PreK.intro ?_ ?_); (next => (first | omega | (intros; first | omega | (refine ⟨by omega, ?_⟩; repeat (first | assumption | constructor)) | assumption))); intro _; try simp )
      | fail)
    refine CondK.intro (fun h1 => ?_) (fun h1 => ?_)
    · try simp 
      repeat' (first
        | ((with_reducible refine PreK.intro ?_ ?_); (next => (first | omega | (intros; first | omega | (refine ⟨by omega, ?_⟩; repeat (first | assumption | constructor)) | assumption))); intro _; try simp )
        | fail)
    · simp at h1
  | x :: xs =>
    have hch := champion_c s w gs x xs hs hw hg hgl (by simp at hlen; omega) hok
    dsimp only at hR
    rw [bestM_champ] at hR
    have hmem := champ_mem s w gs xs x
    generalize champ s w gs x xs = b at hR hch hmem
    have hbok := hok b hmem
    have hcm : ∀ y ∈ x :: xs, CallP Try.prog 185 (candS s y :: [.ipt (candS s b) 0]) (bv (decide (y ≠ b))) := fun y _ => choice1_c ⟨y, el s y.rule.toNat⟩ ⟨b, el s b.rule.toNat⟩
    have hidx := cIndexFunc_c s (x :: xs) (by omega) 185 [.ipt (candS s b) 0] (fun y => decide (y ≠ b)) hcm (by intro m; simp) (by simp) (by intro m; simp)
    by_cases ht : topOf s w gs (x :: xs) b = true
    · rw [if_pos ht] at hR
      rw [if_pos ht, ht] at hch
      dsimp only at hR
      try simp 
      repeat' (first
        | ((with_reducible refine PreK.intro ?_ ?_); (next => (first | omega | (intros; first | omega | (refine ⟨by omega, ?_⟩; repeat (first | assumption | constructor)) | assumption))); intro _; try simp )
        | fail)
      refine CondK.intro (fun h1 => ?_) (fun h1 => ?_)
      · simp at h1
      · simp at h1
        try simp 
        repeat' (first
          | (refine CallX.pure (hch) (by simp) (by simp) ?_; try simp )
          | (refine CallK.intro (hch) (by simp) (by simp) ?_; try simp )
          | (refine CallG.intro (fun _ => hch) (by simp) (by simp) ?_; try simp )
          | ((with_reducible refine PreK.intro ?_ ?_); (next => (first | omega | (intros; first | omega | (refine ⟨by omega, ?_⟩; repeat (first | assumption | constructor)) | assumption))); intro _; try simp )
          | fail)
        refine CondK.intro (fun h2 => ?_) (fun h2 => ?_)
        · simp at h2
        · try simp 
          repeat' (first
            | (refine CallX.pure (hidx) (by simp) (by simp) ?_; try simp )
            | (refine CallK.intro (hidx) (by simp) (by simp) ?_; try simp )
            | (refine CallG.intro (fun _ => hidx) (by simp) (by simp) ?_; try simp )
            | ((with_reducible refine PreK.intro ?_ ?_); (next => (first | omega | (intros; first | omega | (refine ⟨by omega, ?_⟩; repeat (first | assumption | constructor)) | assumption))); intro _; try simp )
            | fail)
          generalize hl2 : x :: xs = l at hR hidx hok hcm
          have hll : l.length ≤ 54 := by rw [← hl2]; exact hlen
          have hp : (fun y => decide (y ≠ b)) = (fun y => !decide (y = b)) := by funext y; simp
          have hm2 : List.map (candS s) l = candS s x :: List.map (candS s) xs := by rw [← hl2]; rfl
          cases hf : l.find? (fun y => decide (y ≠ b)) with
          | none =>
            rw [hf] at hR
            dsimp only at hR
            have hno : idxG (fun y => decide (y ≠ b)) 0 l = -1 := idxG_none _ l 0 (fun y hy => by simpa using List.find?_eq_none.1 hf y hy)
            rw [hp] at hno
            subst hR
            rw [hno]
            refine CondK.intro (fun h3 => ?_) (fun h3 => ?_)
            · simp at h3
            · try simp 
              repeat' (first
                | ((with_reducible refine PreK.intro ?_ ?_); (next => (first | omega | (intros; first | omega | (refine ⟨by omega, ?_⟩; repeat (first | assumption | constructor)) | assumption))); intro _; try simp )
                | fail)
          | some a =>
            rw [hf] at hR
            dsimp only at hR
            obtain ⟨i, hi1, hi2, hi3⟩ := idxG_find _ l 0 a hf
            have hnth2 := nth_cand s l i
            rw [hp] at hi2
            rw [hi3] at hnth2
            have hnth : nth (candS s x :: List.map (candS s) xs) i = candV ⟨a, el s a.rule.toNat⟩ := by rw [← hm2]; exact hnth2 hi1
            simp at hnth hi2
            have hai : stepOK s a := hok a (List.mem_of_find?_eq_some hf)
            have hlx : l.length = xs.length + 1 := by rw [← hl2]; simp
            rw [hi2]
            have hbt := beats_c w gs ⟨b, el s b.rule.toNat⟩ ⟨a, el s a.rule.toNat⟩ hw hg hgl (hbok.small hs) (hai.small hs)
            subst hR
            refine CondK.intro (fun h3 => ?_) (fun h3 => ?_)
            · try simp [hnth]
              repeat' (first
                | (refine CallX.pure (hbt) (by simp) (by simp) ?_; try simp [hnth])
                | (refine CallK.intro (hbt) (by simp) (by simp) ?_; try simp [hnth])
                | (refine CallG.intro (fun _ => hbt) (by simp) (by simp) ?_; try simp [hnth])
                | ((with_reducible refine PreK.intro ?_ ?_); (next => (first | omega | (intros; first | omega | (refine ⟨by omega, ?_⟩; repeat (first | assumption | constructor)) | assumption))); intro _; try simp [hnth])
                | fail)
              rfl
            · simp at h3
    · have ht' : topOf s w gs (x :: xs) b = false := by simpa using ht
      rw [if_neg ht] at hR
      rw [if_neg ht, ht'] at hch
      dsimp only at hR
      try simp 
      repeat' (first
        | ((with_reducible refine PreK.intro ?_ ?_); (next => (first | omega | (intros; first | omega | (refine ⟨by omega, ?_⟩; repeat (first | assumption | constructor)) | assumption))); intro _; try simp )
        | fail)
      refine CondK.intro (fun h1 => ?_) (fun h1 => ?_)
      · simp at h1
      · simp at h1
        try simp 
        repeat' (first
          | (refine CallX.pure (hch) (by simp) (by simp) ?_; try simp )
          | (refine CallK.intro (hch) (by simp) (by simp) ?_; try simp )
          | (refine CallG.intro (fun _ => hch) (by simp) (by simp) ?_; try simp )
          | ((with_reducible refine PreK.intro ?_ ?_); (next => (first | omega | (intros; first | omega | (refine ⟨by omega, ?_⟩; repeat (first | assumption | constructor)) | assumption))); intro _; try simp )
          | fail)
        refine CondK.intro (fun h2 => ?_) (fun h2 => ?_)
        · have hlast : stepOK s (el (x :: xs) xs.length) := hok _ (by rw [el_eq _ _ (by simp)]; exact List.getElem_mem _)
          have e1 : (((xs.length : Int) + 1) - 1).toNat = xs.length := by omega
          have e2 : xs.length < (x :: xs).length := by simp
          have hnth := nth_cand s (x :: xs) xs.length e2
          simp at hnth
          try simp [hnth]
          repeat' (first
            | ((with_reducible refine PreK.intro ?_ ?_); (next => (first | omega | (intros; first | omega | (refine ⟨by omega, ?_⟩; repeat (first | assumption | constructor)) | assumption))); intro _; try simp [hnth])
            | fail)
          subst hR
          simp
        · simp at h2
end Go.Proofs.Ytaooenmkofjafaa
end

section
/- Contracts: the derivation of the program. -/
namespace Go.Proofs.Ytaooenmkofjafaa
open Go.Abs Go
set_option maxRecDepth 20000
set_option maxHeartbeats 2000000
attribute [local irreducible] PreK CondK CallK CallG CallX LoopK
attribute [local simp] avsEq avEq akind teq vkind vEq

/-- A derivation of at most n choices, the word at its end, and whether it ends there. -/
def deriveR (s : List Rule) (gs : List Int) : Nat → List Int → List Choice × List Int × Bool
  | n, w => match choiceM s w gs with
    | none => ([], w, true)
    | some c => match n with
      | 0 => ([], w, false)
      | n + 1 => (c :: (deriveR s gs n (nextW s w c)).1, (deriveR s gs n (nextW s w c)).2.1, (deriveR s gs n (nextW s w c)).2.2)
theorem deriveR_none {s : List Rule} {gs w : List Int} {n : Nat} (h : choiceM s w gs = none) : deriveR s gs n w = ([], w, true) := by
  unfold deriveR; rw [h]
theorem deriveR_zero {s : List Rule} {gs w : List Int} {c : Choice} (h : choiceM s w gs = some c) : deriveR s gs 0 w = ([], w, false) := by
  unfold deriveR; rw [h]
theorem deriveR_succ {s : List Rule} {gs w : List Int} {c : Choice} {n : Nat} (h : choiceM s w gs = some c) :
    deriveR s gs (n + 1) w = (c :: (deriveR s gs n (nextW s w c)).1, (deriveR s gs n (nextW s w c)).2.1, (deriveR s gs n (nextW s w c)).2.2) := by
  rw [deriveR, h]
def DeriveR (s : List Rule) (w gs : List Int) : List Choice × List Int × Int :=
  if orderErr s w gs ≠ 0 then ([], [], orderErr s w gs) else if (deriveR s gs 60 w).2.2 then ((deriveR s gs 60 w).1, (deriveR s gs 60 w).2.1, 0) else ([], [], 3)
def choiceOK (s : List Rule) (c : Choice) : Prop := 0 ≤ c.rule ∧ c.rule < s.length ∧ 0 ≤ c.place ∧ c.place ≤ 8
theorem choiceM_ok {s : List Rule} {w gs : List Int} {c : Choice} (h : choiceM s w gs = some c) : choiceOK s c := by
  have hok : ∀ x ∈ stepsM s w, stepOK s x := stepsM_ok
  unfold choiceM at h
  generalize stepsM s w = l at hok h
  match l with
  | [] => simp at h
  | x :: xs =>
    dsimp only at h
    cases hb : bestM s w gs (x :: xs) with
    | none =>
      rw [hb] at h
      simp only [Option.some.injEq] at h
      subst h
      exact hok _ (by rw [el_eq _ _ (by simp)]; exact List.getElem_mem _)
    | some a =>
      rw [hb] at h
      simp only [Option.some.injEq] at h
      subst h
      exact hok a (List.mem_of_find?_eq_some hb)
theorem nextW_len (s : List Rule) (w : List Int) (c : Choice) : (nextW s w c).length ≤ 8 := applyM_len _ _ _
theorem derive_c (s : List Rule) (w gs : List Int) (hs : Sys.small s) (hw : w.length ≤ 1000) (hg : gOK gs) (hgl : gs.length ≤ 1000) :
    CallP Try.prog 108 [rulesV s, ints w, ints gs] (.tup [choicesV (if (deriveR s gs 60 w).2.2 then (deriveR s gs 60 w).1 else []), ints (if (deriveR s gs 60 w).2.2 then (deriveR s gs 60 w).2.1 else []), iv (if (deriveR s gs 60 w).2.2 then 0 else 3)]) := by
  refine C108 (by simp) ?_
  generalize hR : deriveR s gs 60 w = R
  obtain ⟨R1, R2, R3⟩ := R
  dsimp only
  simp [A108]
  try simp 
  repeat' (first
    | (refine CallX.pure ((clone_o w hw).toP) (by simp) (by simp) ?_; try simp )
    | (refine CallK.intro ((clone_o w hw).toP) (by simp) (by simp) ?_; try simp )
    | (refine CallG.intro (fun _ => (clone_o w hw).toP) (by simp) (by simp) ?_; try simp )
    | ((with_reducible refine PreK.intro ?_ ?_); (next => (first | omega | (intros; first | omega | (refine ⟨by omega, ?_⟩; repeat (first | assumption | constructor)) | assumption))); intro _; try simp )
    | fail)
  refine LoopK.by (ι := Nat × Nat × List Int × List Choice) (fun i => ⟨[(0, rulesV s), (1, ints i.2.2.1), (2, ints gs), (9, .sl 9 i.2.1 0 i.2.2.2.length)], [(9, some ⟨3, i.2.2.2.map choiceV, i.2.1, false⟩)]⟩) (fun i => i.1)
    (fun i => i.2.2.2.length + i.1 = 60 ∧ i.2.2.1.length ≤ 1000 ∧ i.2.2.2 ++ (deriveR s gs i.1 i.2.2.1).1 = R1 ∧ (deriveR s gs i.1 i.2.2.1).2 = (R2, R3)) (60, 1, w, []) (by simp [hR, hw]) (by simp) ?_
  intro ⟨n, ver, v, acc⟩ Q' ⟨hn, hv, hc1, hc2⟩ hq he hr
  dsimp only at hn hv hc1 hc2
  have hch := choice_c s v gs hs hv hg hgl
  cases hcm : choiceM s v gs with
  | none =>
    rw [hcm] at hch
    rw [deriveR_none hcm] at hc1 hc2
    simp at hc1 hc2 hch
    obtain ⟨rfl, rfl⟩ := hc2
    subst hc1
    try simp 
    repeat' (first
      | (refine CallX.pure (hch) (by simp) (by simp) ?_; try simp )
      | (refine CallK.intro (hch) (by simp) (by simp) ?_; try simp )
      | (refine CallG.intro (fun _ => hch) (by simp) (by simp) ?_; try simp )
      | ((with_reducible refine PreK.intro ?_ ?_); (next => (first | omega | (intros; first | omega | (refine ⟨by omega, ?_⟩; repeat (first | assumption | constructor)) | assumption))); intro _; try simp )
      | fail)
    refine CondK.intro (fun h1 => ?_) (fun h1 => ?_)
    · try simp 
      repeat' (first
        | ((with_reducible refine PreK.intro ?_ ?_); (next => (first | omega | (intros; first | omega | (refine ⟨by omega, ?_⟩; repeat (first | assumption | constructor)) | assumption))); intro _; try simp )
        | fail)
      apply hr
      simp
    · simp at h1
  | some c =>
    rw [hcm] at hch
    simp at hch
    have hco := choiceM_ok hcm
    have hap := apply_c s v c hs hv hco.1 hco.2.1
    have hnl := nextW_len s v c
    try simp 
    repeat' (first
      | (refine CallX.pure (hch) (by simp) (by simp) ?_; try simp )
      | (refine CallK.intro (hch) (by simp) (by simp) ?_; try simp )
      | (refine CallG.intro (fun _ => hch) (by simp) (by simp) ?_; try simp )
      | ((with_reducible refine PreK.intro ?_ ?_); (next => (first | omega | (intros; first | omega | (refine ⟨by omega, ?_⟩; repeat (first | assumption | constructor)) | assumption))); intro _; try simp )
      | fail)
    refine CondK.intro (fun h1 => ?_) (fun h1 => ?_)
    · simp at h1
    · try simp 
      repeat' (first
        | ((with_reducible refine PreK.intro ?_ ?_); (next => (first | omega | (intros; first | omega | (refine ⟨by omega, ?_⟩; repeat (first | assumption | constructor)) | assumption))); intro _; try simp )
        | fail)
      refine CondK.intro (fun h2 => ?_) (fun h2 => ?_)
      · have hn0 : n = 0 := by simp at h2; omega
        subst hn0
        rw [deriveR_zero hcm] at hc1 hc2
        simp at hc1 hc2
        obtain ⟨rfl, rfl⟩ := hc2
        try simp 
        repeat' (first
          | ((with_reducible refine PreK.intro ?_ ?_); (next => (first | omega | (intros; first | omega | (refine ⟨by omega, ?_⟩; repeat (first | assumption | constructor)) | assumption))); intro _; try simp )
          | fail)
        apply hr
        simp
      · have hn0 : acc.length ≠ 60 := by simp at h2; omega
        obtain ⟨m, rfl⟩ : ∃ m, n = m + 1 := ⟨n - 1, by omega⟩
        rw [deriveR_succ hcm] at hc1 hc2
        try simp 
        repeat' (first
          | (refine CallX.pure (hap) (by simp) (by simp) ?_; try simp )
          | (refine CallK.intro (hap) (by simp) (by simp) ?_; try simp )
          | (refine CallG.intro (fun _ => hap) (by simp) (by simp) ?_; try simp )
          | ((with_reducible refine PreK.intro ?_ ?_); (next => (first | omega | (intros; first | omega | (refine ⟨by omega, ?_⟩; repeat (first | assumption | constructor)) | assumption))); intro _; try simp )
          | fail)
        exact hq (m, ver + 1, nextW s v c, acc ++ [c]) _ ⟨by simp; omega, by dsimp only; omega, by simpa using hc1, by rw [Prod.ext_iff]; simpa using hc2⟩ (by dsimp only; omega) (by simp)
end Go.Proofs.Ytaooenmkofjafaa
end

section
/- Functions of the cut as the value layer reads them. (written by gen.py) -/
set_option maxRecDepth 20000
namespace Go.Proofs.Ytaooenmkofjafaa
open Go.Abs Go

def A133 : ACode :=
  (.seq (.reg [] [⟨some 2, (.assign (.const (.bool false))), 4, none⟩])
    (.seq (.reg [] [⟨some 3, (.move (.tmp 0)), 3, none⟩,
      ⟨some 4, (.binOp .lss 3 (.tmp 3) (.const (.int .i64 1)) 3), 4, none⟩,
      ⟨some 5, (.move (.tmp 4)), 4, none⟩,
      ⟨some 6, (.move (.tmp 0)), 3, some (5, false)⟩,
      ⟨some 7, (.binOp .gtr 3 (.tmp 6) (.const (.int .i64 4)) 3), 4, some (5, false)⟩,
      ⟨some 8, (.pick (.tmp 5) (.const (.bool true)) (.tmp 7)), 4, none⟩,
      ⟨some 2, (.assign (.tmp 8)), 4, none⟩])
    .ret))
theorem C133 {args : List AV} {r : AV} (hn : args.length ≤ 9) (h : vc Try.prog T [] A133 (Fin T [(.tmp 2)] r) ⟨envOf 0 args, []⟩) : CallP Try.prog 133 args r :=
  callP_of tok mixed Try.func133 (by kernel_rfl) (by kernel_rfl) (by kernel_rfl : Try.f133.ntmps = 9) (by kernel_rfl : Try.f133.body.bind (strip 9 (fun _ => [])) = some A133) hn h
def A57 : ACode :=
  (.seq (.reg [] [⟨some 4, (.assign (.const (.bool false))), 4, none⟩,
      ⟨some 5, (.assign (.const (.int .i64 0))), 29, none⟩])
    (.seq (.seq (.reg [] [⟨some 7, (.move (.tmp 0)), 22, none⟩,
      ⟨some 8, (.move (.tmp 1)), 23, none⟩,
      ⟨some 9, (.buildSlice 62 1 #[(0, (.tmp 8))]), 62, none⟩,
      ⟨some 10, (.call ⟨(.value (.func 140)), #[(.tmp 7), (.tmp 9)], #[22, 62]⟩), 29, none⟩,
      ⟨some 6, (.assign (.tmp 10)), 29, none⟩])
    (.seq (.reg [] [⟨some 11, (.move (.tmp 6)), 29, none⟩,
      ⟨some 12, (.binOp .neq 29 (.tmp 11) (.const (.int .i64 0)) 29), 4, none⟩])
    (.cond (.tmp 12)
    (.seq (.reg [] [⟨some 13, (.move (.tmp 6)), 29, none⟩,
      ⟨some 4, (.assign (.const (.bool false))), 4, none⟩,
      ⟨some 5, (.assign (.tmp 13)), 29, none⟩])
    .ret)
    .skip)))
    (.seq (.reg [] [⟨some 14, (.move (.tmp 0)), 22, none⟩,
      ⟨some 15, (.move (.tmp 1)), 23, none⟩,
      ⟨some 16, (.call ⟨(.value (.func 141)), #[(.tmp 14), (.tmp 15)], #[22, 23]⟩), 143, none⟩,
      ⟨some 17, (.call ⟨(.builtin .len), #[(.tmp 16)], #[143]⟩), 3, none⟩,
      ⟨some 18, (.binOp .eql 3 (.tmp 17) (.const (.int .i64 0)) 3), 4, none⟩,
      ⟨some 4, (.assign (.tmp 18)), 4, none⟩,
      ⟨some 5, (.assign (.const (.int .i64 0))), 29, none⟩])
    .ret)))
theorem C57 {args : List AV} {r : AV} (hn : args.length ≤ 19) (h : vc Try.prog T [] A57 (Fin T [(.tmp 4), (.tmp 5)] r) ⟨envOf 0 args, []⟩) : CallP Try.prog 57 args r :=
  callP_of tok mixed Try.func57 (by kernel_rfl) (by kernel_rfl) (by kernel_rfl : Try.f57.ntmps = 19) (by kernel_rfl : Try.f57.body.bind (strip 19 (fun _ => [])) = some A57) hn h
end Go.Proofs.Ytaooenmkofjafaa
end
