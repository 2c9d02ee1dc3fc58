/- Part 5 of the proof: the value layer and the contracts of the functions that the statement reaches; proved without conditions beyond those each theorem states. -/
import Derived.Test.YtaooenmkofjafaaV3
import Derived.Test.YtaooenmkofjafaaV4
set_option linter.unusedSimpArgs false
set_option linter.unusedVariables false

section
/- Functions of the cut as the value layer reads them. (written by gen.py) -/
set_option maxRecDepth 20000
namespace Go.Proofs.Ytaooenmkofjafaa
open Go.Abs Go

def A15 : ACode :=
  (.seq (.reg [] [⟨some 4, (.assign (.const (.bool false))), 4, none⟩])
    (.seq (.seq (.reg [] [⟨some 9, (.move (.tmp 0)), 22, none⟩,
      ⟨some 10, (.call ⟨(.value (.func 71)), #[(.tmp 9)], #[22]⟩), 4, none⟩,
      ⟨some 11, (.move (.tmp 10)), 4, none⟩,
      ⟨some 12, (.move (.tmp 1)), 23, some (11, false)⟩,
      ⟨some 13, (.call ⟨(.value (.func 72)), #[(.tmp 12)], #[23]⟩), 4, some (11, false)⟩,
      ⟨some 14, (.pick (.tmp 11) (.const (.bool true)) (.tmp 13)), 4, none⟩])
    (.cond (.tmp 14)
    (.seq (.reg [] [⟨some 15, (.call ⟨(.value (.func 73)), #[], #[]⟩), 4, none⟩,
      ⟨some 4, (.assign (.tmp 15)), 4, none⟩])
    .ret)
    .skip))
    (.seq (.reg [] [⟨some 17, (.move (.tmp 0)), 22, none⟩,
      ⟨some 18, (.move (.tmp 1)), 23, none⟩,
      ⟨some 19, (.call ⟨(.value (.func 74)), #[(.tmp 17), (.tmp 18)], #[22, 23]⟩), 63, none⟩,
      ⟨some 16, (.move (.tmp 19)), 63, none⟩,
      ⟨some 20, (.extract (.tmp 16) 0), 62, none⟩,
      ⟨some 21, (.extract (.tmp 16) 1), 29, none⟩,
      ⟨some 5, (.assign (.tmp 20)), 62, none⟩,
      ⟨some 6, (.assign (.tmp 21)), 29, none⟩])
    (.seq (.reg [] [⟨some 23, (.move (.tmp 0)), 22, none⟩,
      ⟨some 24, (.move (.tmp 1)), 23, none⟩,
      ⟨some 25, (.call ⟨(.value (.func 75)), #[(.tmp 23), (.tmp 24)], #[22, 23]⟩), 63, none⟩,
      ⟨some 22, (.move (.tmp 25)), 63, none⟩,
      ⟨some 26, (.extract (.tmp 22) 0), 62, none⟩,
      ⟨some 27, (.extract (.tmp 22) 1), 29, none⟩,
      ⟨some 7, (.assign (.tmp 26)), 62, none⟩,
      ⟨some 8, (.assign (.tmp 27)), 29, none⟩])
    (.seq (.reg [] [⟨some 28, (.move (.tmp 5)), 62, none⟩,
      ⟨some 29, (.move (.tmp 7)), 62, none⟩,
      ⟨some 30, (.call ⟨(.value (.func 76)), #[(.tmp 28), (.tmp 29)], #[62, 62]⟩), 4, none⟩,
      ⟨some 31, (.move (.tmp 30)), 4, none⟩,
      ⟨some 32, (.move (.tmp 6)), 29, some (31, true)⟩,
      ⟨some 33, (.move (.tmp 8)), 29, some (31, true)⟩,
      ⟨some 34, (.binOp .eql 29 (.tmp 32) (.tmp 33) 29), 4, some (31, true)⟩,
      ⟨some 35, (.pick (.tmp 31) (.tmp 34) (.const (.bool false))), 4, none⟩,
      ⟨some 36, (.move (.tmp 35)), 4, none⟩,
      ⟨some 37, (.move (.tmp 6)), 29, some (36, true)⟩,
      ⟨some 38, (.binOp .neq 29 (.tmp 37) (.const (.int .i64 0)) 29), 4, some (36, true)⟩,
      ⟨some 39, (.move (.tmp 38)), 4, some (36, true)⟩,
      ⟨some 40, (.move (.tmp 1)), 23, some (39, false)⟩,
      ⟨some 41, (.buildSlice 62 1 #[(0, (.tmp 40))]), 62, some (39, false)⟩,
      ⟨some 42, (.move (.tmp 5)), 62, some (39, false)⟩,
      ⟨some 43, (.call ⟨(.value (.func 77)), #[(.tmp 41), (.tmp 42)], #[62, 62]⟩), 4, some (39, false)⟩,
      ⟨some 44, (.pick (.tmp 39) (.const (.bool true)) (.tmp 43)), 4, some (36, true)⟩,
      ⟨some 45, (.pick (.tmp 36) (.tmp 44) (.const (.bool false))), 4, none⟩,
      ⟨some 46, (.move (.tmp 45)), 4, none⟩,
      ⟨some 47, (.call ⟨(.value (.func 73)), #[], #[]⟩), 4, some (46, true)⟩,
      ⟨some 48, (.pick (.tmp 46) (.tmp 47) (.const (.bool false))), 4, none⟩,
      ⟨some 4, (.assign (.tmp 48)), 4, none⟩])
    .ret)))))
theorem C15 {args : List AV} {r : AV} (hn : args.length ≤ 49) (h : vc Try.prog T [] A15 (Fin T [(.tmp 4)] r) ⟨envOf 0 args, []⟩) : CallP Try.prog 15 args r :=
  callP_of tok mixed Try.func15 (by kernel_rfl) (by kernel_rfl) (by kernel_rfl : Try.f15.ntmps = 49) (by kernel_rfl : Try.f15.body.bind (strip 49 (fun _ => [])) = some A15) hn h
def A16 : ACode :=
  (.seq (.reg [] [⟨some 4, (.assign (.const (.bool false))), 4, none⟩])
    (.seq (.seq (.reg [] [⟨some 9, (.move (.tmp 0)), 22, none⟩,
      ⟨some 10, (.call ⟨(.value (.func 71)), #[(.tmp 9)], #[22]⟩), 4, none⟩,
      ⟨some 11, (.move (.tmp 10)), 4, none⟩,
      ⟨some 12, (.move (.tmp 1)), 23, some (11, false)⟩,
      ⟨some 13, (.call ⟨(.value (.func 72)), #[(.tmp 12)], #[23]⟩), 4, some (11, false)⟩,
      ⟨some 14, (.pick (.tmp 11) (.const (.bool true)) (.tmp 13)), 4, none⟩])
    (.cond (.tmp 14)
    (.seq (.reg [] [⟨some 15, (.call ⟨(.value (.func 73)), #[], #[]⟩), 4, none⟩,
      ⟨some 4, (.assign (.tmp 15)), 4, none⟩])
    .ret)
    .skip))
    (.seq (.reg [] [⟨some 17, (.move (.tmp 0)), 22, none⟩,
      ⟨some 18, (.move (.tmp 1)), 23, none⟩,
      ⟨some 19, (.call ⟨(.value (.func 78)), #[(.tmp 17), (.tmp 18)], #[22, 23]⟩), 63, none⟩,
      ⟨some 16, (.move (.tmp 19)), 63, none⟩,
      ⟨some 20, (.extract (.tmp 16) 0), 62, none⟩,
      ⟨some 21, (.extract (.tmp 16) 1), 29, none⟩,
      ⟨some 5, (.assign (.tmp 20)), 62, none⟩,
      ⟨some 6, (.assign (.tmp 21)), 29, none⟩])
    (.seq (.reg [] [⟨some 23, (.move (.tmp 0)), 22, none⟩,
      ⟨some 24, (.move (.tmp 1)), 23, none⟩,
      ⟨some 25, (.call ⟨(.value (.func 79)), #[(.tmp 23), (.tmp 24)], #[22, 23]⟩), 63, none⟩,
      ⟨some 22, (.move (.tmp 25)), 63, none⟩,
      ⟨some 26, (.extract (.tmp 22) 0), 62, none⟩,
      ⟨some 27, (.extract (.tmp 22) 1), 29, none⟩,
      ⟨some 7, (.assign (.tmp 26)), 62, none⟩,
      ⟨some 8, (.assign (.tmp 27)), 29, none⟩])
    (.seq (.reg [] [⟨some 28, (.move (.tmp 5)), 62, none⟩,
      ⟨some 29, (.move (.tmp 7)), 62, none⟩,
      ⟨some 30, (.call ⟨(.value (.func 76)), #[(.tmp 28), (.tmp 29)], #[62, 62]⟩), 4, none⟩,
      ⟨some 31, (.move (.tmp 30)), 4, none⟩,
      ⟨some 32, (.move (.tmp 6)), 29, some (31, true)⟩,
      ⟨some 33, (.move (.tmp 8)), 29, some (31, true)⟩,
      ⟨some 34, (.binOp .eql 29 (.tmp 32) (.tmp 33) 29), 4, some (31, true)⟩,
      ⟨some 35, (.pick (.tmp 31) (.tmp 34) (.const (.bool false))), 4, none⟩,
      ⟨some 36, (.move (.tmp 35)), 4, none⟩,
      ⟨some 37, (.call ⟨(.value (.func 73)), #[], #[]⟩), 4, some (36, true)⟩,
      ⟨some 38, (.pick (.tmp 36) (.tmp 37) (.const (.bool false))), 4, none⟩,
      ⟨some 4, (.assign (.tmp 38)), 4, none⟩])
    .ret)))))
theorem C16 {args : List AV} {r : AV} (hn : args.length ≤ 39) (h : vc Try.prog T [] A16 (Fin T [(.tmp 4)] r) ⟨envOf 0 args, []⟩) : CallP Try.prog 16 args r :=
  callP_of tok mixed Try.func16 (by kernel_rfl) (by kernel_rfl) (by kernel_rfl : Try.f16.ntmps = 39) (by kernel_rfl : Try.f16.body.bind (strip 39 (fun _ => [])) = some A16) hn h
def A17 : ACode :=
  (.seq (.reg [] [⟨some 4, (.assign (.const (.bool false))), 4, none⟩])
    (.seq (.seq (.reg [] [⟨some 13, (.move (.tmp 0)), 22, none⟩,
      ⟨some 14, (.call ⟨(.value (.func 71)), #[(.tmp 13)], #[22]⟩), 4, none⟩,
      ⟨some 15, (.move (.tmp 14)), 4, none⟩,
      ⟨some 16, (.move (.tmp 1)), 23, some (15, false)⟩,
      ⟨some 17, (.call ⟨(.value (.func 72)), #[(.tmp 16)], #[23]⟩), 4, some (15, false)⟩,
      ⟨some 18, (.pick (.tmp 15) (.const (.bool true)) (.tmp 17)), 4, none⟩])
    (.cond (.tmp 18)
    (.seq (.reg [] [⟨some 19, (.call ⟨(.value (.func 73)), #[], #[]⟩), 4, none⟩,
      ⟨some 4, (.assign (.tmp 19)), 4, none⟩])
    .ret)
    .skip))
    (.seq (.reg [] [⟨some 21, (.move (.tmp 0)), 22, none⟩,
      ⟨some 22, (.move (.tmp 1)), 23, none⟩,
      ⟨some 23, (.call ⟨(.value (.func 80)), #[(.tmp 21), (.tmp 22)], #[22, 23]⟩), 89, none⟩,
      ⟨some 20, (.move (.tmp 23)), 89, none⟩,
      ⟨some 24, (.extract (.tmp 20) 0), 88, none⟩,
      ⟨some 25, (.extract (.tmp 20) 1), 29, none⟩,
      ⟨some 5, (.assign (.tmp 24)), 88, none⟩,
      ⟨some 6, (.assign (.tmp 25)), 29, none⟩])
    (.seq (.reg [] [⟨some 27, (.move (.tmp 0)), 22, none⟩,
      ⟨some 28, (.move (.tmp 1)), 23, none⟩,
      ⟨some 29, (.call ⟨(.value (.func 81)), #[(.tmp 27), (.tmp 28)], #[22, 23]⟩), 89, none⟩,
      ⟨some 26, (.move (.tmp 29)), 89, none⟩,
      ⟨some 30, (.extract (.tmp 26) 0), 88, none⟩,
      ⟨some 31, (.extract (.tmp 26) 1), 29, none⟩,
      ⟨some 7, (.assign (.tmp 30)), 88, none⟩,
      ⟨some 8, (.assign (.tmp 31)), 29, none⟩])
    (.seq (.reg [] [⟨some 33, (.move (.tmp 0)), 22, none⟩,
      ⟨some 34, (.move (.tmp 1)), 23, none⟩,
      ⟨some 35, (.call ⟨(.value (.func 57)), #[(.tmp 33), (.tmp 34)], #[22, 23]⟩), 40, none⟩,
      ⟨some 32, (.move (.tmp 35)), 40, none⟩,
      ⟨some 36, (.extract (.tmp 32) 0), 4, none⟩,
      ⟨some 37, (.extract (.tmp 32) 1), 29, none⟩,
      ⟨some 9, (.assign (.tmp 36)), 4, none⟩,
      ⟨some 10, (.assign (.tmp 37)), 29, none⟩])
    (.seq (.reg [] [⟨some 39, (.move (.tmp 0)), 22, none⟩,
      ⟨some 40, (.move (.tmp 1)), 23, none⟩,
      ⟨some 41, (.call ⟨(.value (.func 82)), #[(.tmp 39), (.tmp 40)], #[22, 23]⟩), 40, none⟩,
      ⟨some 38, (.move (.tmp 41)), 40, none⟩,
      ⟨some 42, (.extract (.tmp 38) 0), 4, none⟩,
      ⟨some 43, (.extract (.tmp 38) 1), 29, none⟩,
      ⟨some 11, (.assign (.tmp 42)), 4, none⟩,
      ⟨some 12, (.assign (.tmp 43)), 29, none⟩])
    (.seq (.reg [] [⟨some 44, (.move (.tmp 0)), 22, none⟩,
      ⟨some 45, (.call ⟨(.value (.func 83)), #[(.tmp 44)], #[22]⟩), 29, none⟩,
      ⟨some 46, (.move (.tmp 0)), 22, none⟩,
      ⟨some 47, (.call ⟨(.value (.func 84)), #[(.tmp 46)], #[22]⟩), 29, none⟩,
      ⟨some 48, (.binOp .eql 29 (.tmp 45) (.tmp 47) 29), 4, none⟩,
      ⟨some 49, (.move (.tmp 48)), 4, none⟩,
      ⟨some 50, (.move (.tmp 5)), 88, some (49, true)⟩,
      ⟨some 51, (.move (.tmp 7)), 88, some (49, true)⟩,
      ⟨some 52, (.call ⟨(.value (.func 85)), #[(.tmp 50), (.tmp 51)], #[88, 88]⟩), 4, some (49, true)⟩,
      ⟨some 53, (.pick (.tmp 49) (.tmp 52) (.const (.bool false))), 4, none⟩,
      ⟨some 54, (.move (.tmp 53)), 4, none⟩,
      ⟨some 55, (.move (.tmp 6)), 29, some (54, true)⟩,
      ⟨some 56, (.move (.tmp 8)), 29, some (54, true)⟩,
      ⟨some 57, (.binOp .eql 29 (.tmp 55) (.tmp 56) 29), 4, some (54, true)⟩,
      ⟨some 58, (.pick (.tmp 54) (.tmp 57) (.const (.bool false))), 4, none⟩,
      ⟨some 59, (.move (.tmp 58)), 4, none⟩,
      ⟨some 60, (.move (.tmp 9)), 4, some (59, true)⟩,
      ⟨some 61, (.move (.tmp 11)), 4, some (59, true)⟩,
      ⟨some 62, (.binOp .eql 4 (.tmp 60) (.tmp 61) 4), 4, some (59, true)⟩,
      ⟨some 63, (.pick (.tmp 59) (.tmp 62) (.const (.bool false))), 4, none⟩,
      ⟨some 64, (.move (.tmp 63)), 4, none⟩,
      ⟨some 65, (.move (.tmp 10)), 29, some (64, true)⟩,
      ⟨some 66, (.move (.tmp 12)), 29, some (64, true)⟩,
      ⟨some 67, (.binOp .eql 29 (.tmp 65) (.tmp 66) 29), 4, some (64, true)⟩,
      ⟨some 68, (.pick (.tmp 64) (.tmp 67) (.const (.bool false))), 4, none⟩,
      ⟨some 69, (.move (.tmp 68)), 4, none⟩,
      ⟨some 70, (.move (.tmp 6)), 29, some (69, true)⟩,
      ⟨some 71, (.binOp .neq 29 (.tmp 70) (.const (.int .i64 0)) 29), 4, some (69, true)⟩,
      ⟨some 72, (.move (.tmp 71)), 4, some (69, true)⟩,
      ⟨some 73, (.move (.tmp 9)), 4, some (72, false)⟩,
      ⟨some 74, (.move (.tmp 5)), 88, some (72, false)⟩,
      ⟨some 75, (.call ⟨(.builtin .len), #[(.tmp 74)], #[88]⟩), 3, some (72, false)⟩,
      ⟨some 76, (.binOp .eql 3 (.tmp 75) (.const (.int .i64 0)) 3), 4, some (72, false)⟩,
      ⟨some 77, (.binOp .eql 4 (.tmp 73) (.tmp 76) 4), 4, some (72, false)⟩,
      ⟨some 78, (.pick (.tmp 72) (.const (.bool true)) (.tmp 77)), 4, some (69, true)⟩,
      ⟨some 79, (.pick (.tmp 69) (.tmp 78) (.const (.bool false))), 4, none⟩,
      ⟨some 80, (.move (.tmp 79)), 4, none⟩,
      ⟨some 81, (.call ⟨(.value (.func 73)), #[], #[]⟩), 4, some (80, true)⟩,
      ⟨some 82, (.pick (.tmp 80) (.tmp 81) (.const (.bool false))), 4, none⟩,
      ⟨some 4, (.assign (.tmp 82)), 4, none⟩])
    .ret)))))))
theorem C17 {args : List AV} {r : AV} (hn : args.length ≤ 83) (h : vc Try.prog T [] A17 (Fin T [(.tmp 4)] r) ⟨envOf 0 args, []⟩) : CallP Try.prog 17 args r :=
  callP_of tok mixed Try.func17 (by kernel_rfl) (by kernel_rfl) (by kernel_rfl : Try.f17.ntmps = 83) (by kernel_rfl : Try.f17.body.bind (strip 83 (fun _ => [])) = some A17) hn h
def A19 : ACode :=
  (.seq (.reg [] [⟨some 2, (.assign (.const (.bool false))), 4, none⟩])
    (.seq (.seq (.reg [] [⟨some 9, (.move (.tmp 0)), 22, none⟩,
      ⟨some 10, (.call ⟨(.value (.func 71)), #[(.tmp 9)], #[22]⟩), 4, none⟩])
    (.cond (.tmp 10)
    (.seq (.reg [] [⟨some 11, (.call ⟨(.value (.func 73)), #[], #[]⟩), 4, none⟩,
      ⟨some 2, (.assign (.tmp 11)), 4, none⟩])
    .ret)
    .skip))
    (.seq (.reg [] [⟨some 13, (.move (.tmp 0)), 22, none⟩,
      ⟨some 14, (.call ⟨(.value (.func 58)), #[(.tmp 13)], #[22]⟩), 68, none⟩,
      ⟨some 12, (.move (.tmp 14)), 68, none⟩,
      ⟨some 15, (.extract (.tmp 12) 0), 23, none⟩,
      ⟨some 16, (.extract (.tmp 12) 1), 4, none⟩,
      ⟨some 17, (.extract (.tmp 12) 2), 29, none⟩,
      ⟨some 3, (.assign (.tmp 15)), 23, none⟩,
      ⟨some 4, (.assign (.tmp 16)), 4, none⟩,
      ⟨some 5, (.assign (.tmp 17)), 29, none⟩])
    (.seq (.reg [] [⟨some 19, (.move (.tmp 0)), 22, none⟩,
      ⟨some 20, (.call ⟨(.value (.func 97)), #[(.tmp 19)], #[22]⟩), 68, none⟩,
      ⟨some 18, (.move (.tmp 20)), 68, none⟩,
      ⟨some 21, (.extract (.tmp 18) 0), 23, none⟩,
      ⟨some 22, (.extract (.tmp 18) 1), 4, none⟩,
      ⟨some 23, (.extract (.tmp 18) 2), 29, none⟩,
      ⟨some 6, (.assign (.tmp 21)), 23, none⟩,
      ⟨some 7, (.assign (.tmp 22)), 4, none⟩,
      ⟨some 8, (.assign (.tmp 23)), 29, none⟩])
    (.seq (.seq (.reg [] [⟨some 24, (.move (.tmp 3)), 23, none⟩,
      ⟨some 25, (.move (.tmp 6)), 23, none⟩,
      ⟨some 26, (.call ⟨(.value (.func 61)), #[(.tmp 24), (.tmp 25)], #[23, 23]⟩), 4, none⟩,
      ⟨some 27, (.unOp .not 4 (.tmp 26)), 4, none⟩,
      ⟨some 28, (.move (.tmp 27)), 4, none⟩,
      ⟨some 29, (.move (.tmp 4)), 4, some (28, false)⟩,
      ⟨some 30, (.move (.tmp 7)), 4, some (28, false)⟩,
      ⟨some 31, (.binOp .neq 4 (.tmp 29) (.tmp 30) 4), 4, some (28, false)⟩,
      ⟨some 32, (.pick (.tmp 28) (.const (.bool true)) (.tmp 31)), 4, none⟩,
      ⟨some 33, (.move (.tmp 32)), 4, none⟩,
      ⟨some 34, (.move (.tmp 5)), 29, some (33, false)⟩,
      ⟨some 35, (.move (.tmp 8)), 29, some (33, false)⟩,
      ⟨some 36, (.binOp .neq 29 (.tmp 34) (.tmp 35) 29), 4, some (33, false)⟩,
      ⟨some 37, (.pick (.tmp 33) (.const (.bool true)) (.tmp 36)), 4, none⟩])
    (.cond (.tmp 37)
    (.seq (.reg [] [⟨some 2, (.assign (.const (.bool false))), 4, none⟩])
    .ret)
    .skip))
    (.seq (.reg [] [⟨some 38, (.move (.tmp 4)), 4, none⟩,
      ⟨some 39, (.unOp .not 4 (.tmp 38)), 4, none⟩,
      ⟨some 40, (.move (.tmp 39)), 4, none⟩,
      ⟨some 41, (.move (.tmp 0)), 22, some (40, false)⟩,
      ⟨some 42, (.move (.tmp 3)), 23, some (40, false)⟩,
      ⟨some 43, (.call ⟨(.value (.func 91)), #[(.tmp 41), (.tmp 42)], #[22, 23]⟩), 29, some (40, false)⟩,
      ⟨some 44, (.binOp .eql 29 (.tmp 43) (.const (.int .i64 0)) 29), 4, some (40, false)⟩,
      ⟨some 45, (.pick (.tmp 40) (.const (.bool true)) (.tmp 44)), 4, none⟩,
      ⟨some 46, (.move (.tmp 45)), 4, none⟩,
      ⟨some 47, (.call ⟨(.value (.func 73)), #[], #[]⟩), 4, some (46, true)⟩,
      ⟨some 48, (.pick (.tmp 46) (.tmp 47) (.const (.bool false))), 4, none⟩,
      ⟨some 2, (.assign (.tmp 48)), 4, none⟩])
    .ret))))))
theorem C19 {args : List AV} {r : AV} (hn : args.length ≤ 49) (h : vc Try.prog T [] A19 (Fin T [(.tmp 2)] r) ⟨envOf 0 args, []⟩) : CallP Try.prog 19 args r :=
  callP_of tok mixed Try.func19 (by kernel_rfl) (by kernel_rfl) (by kernel_rfl : Try.f19.ntmps = 49) (by kernel_rfl : Try.f19.body.bind (strip 49 (fun _ => [])) = some A19) hn h
def A20 : ACode :=
  (.seq (.reg [] [⟨some 6, (.assign (.const (.bool false))), 4, none⟩])
    (.seq (.seq (.reg [] [⟨some 13, (.move (.tmp 0)), 22, none⟩,
      ⟨some 14, (.call ⟨(.value (.func 71)), #[(.tmp 13)], #[22]⟩), 4, none⟩,
      ⟨some 15, (.move (.tmp 14)), 4, none⟩,
      ⟨some 16, (.move (.tmp 1)), 23, some (15, false)⟩,
      ⟨some 17, (.call ⟨(.value (.func 72)), #[(.tmp 16)], #[23]⟩), 4, some (15, false)⟩,
      ⟨some 18, (.pick (.tmp 15) (.const (.bool true)) (.tmp 17)), 4, none⟩,
      ⟨some 19, (.move (.tmp 18)), 4, none⟩,
      ⟨some 20, (.move (.tmp 2)), 88, some (19, false)⟩,
      ⟨some 21, (.call ⟨(.builtin .len), #[(.tmp 20)], #[88]⟩), 3, some (19, false)⟩,
      ⟨some 22, (.binOp .gtr 3 (.tmp 21) (.const (.int .i64 200)) 3), 4, some (19, false)⟩,
      ⟨some 23, (.pick (.tmp 19) (.const (.bool true)) (.tmp 22)), 4, none⟩])
    (.cond (.tmp 23)
    (.seq (.reg [] [⟨some 24, (.call ⟨(.value (.func 73)), #[], #[]⟩), 4, none⟩,
      ⟨some 6, (.assign (.tmp 24)), 4, none⟩])
    .ret)
    .skip))
    (.seq (.reg [] [⟨some 26, (.move (.tmp 0)), 22, none⟩,
      ⟨some 27, (.move (.tmp 1)), 23, none⟩,
      ⟨some 28, (.move (.tmp 2)), 88, none⟩,
      ⟨some 29, (.call ⟨(.value (.func 93)), #[(.tmp 26), (.tmp 27), (.tmp 28)], #[22, 23, 88]⟩), 99, none⟩,
      ⟨some 25, (.move (.tmp 29)), 99, none⟩,
      ⟨some 30, (.extract (.tmp 25) 0), 23, none⟩,
      ⟨some 31, (.extract (.tmp 25) 1), 3, none⟩,
      ⟨some 32, (.extract (.tmp 25) 2), 29, none⟩,
      ⟨some 7, (.assign (.tmp 30)), 23, none⟩,
      ⟨some 8, (.assign (.tmp 31)), 3, none⟩,
      ⟨some 9, (.assign (.tmp 32)), 29, none⟩])
    (.seq (.reg [] [⟨some 34, (.move (.tmp 0)), 22, none⟩,
      ⟨some 35, (.move (.tmp 1)), 23, none⟩,
      ⟨some 36, (.move (.tmp 2)), 88, none⟩,
      ⟨some 37, (.call ⟨(.value (.func 98)), #[(.tmp 34), (.tmp 35), (.tmp 36)], #[22, 23, 88]⟩), 99, none⟩,
      ⟨some 33, (.move (.tmp 37)), 99, none⟩,
      ⟨some 38, (.extract (.tmp 33) 0), 23, none⟩,
      ⟨some 39, (.extract (.tmp 33) 1), 3, none⟩,
      ⟨some 40, (.extract (.tmp 33) 2), 29, none⟩,
      ⟨some 10, (.assign (.tmp 38)), 23, none⟩,
      ⟨some 11, (.assign (.tmp 39)), 3, none⟩,
      ⟨some 12, (.assign (.tmp 40)), 29, none⟩])
    (.seq (.reg [] [⟨some 41, (.move (.tmp 7)), 23, none⟩,
      ⟨some 42, (.move (.tmp 10)), 23, none⟩,
      ⟨some 43, (.call ⟨(.value (.func 61)), #[(.tmp 41), (.tmp 42)], #[23, 23]⟩), 4, none⟩,
      ⟨some 44, (.move (.tmp 43)), 4, none⟩,
      ⟨some 45, (.move (.tmp 8)), 3, some (44, true)⟩,
      ⟨some 46, (.move (.tmp 11)), 3, some (44, true)⟩,
      ⟨some 47, (.binOp .eql 3 (.tmp 45) (.tmp 46) 3), 4, some (44, true)⟩,
      ⟨some 48, (.pick (.tmp 44) (.tmp 47) (.const (.bool false))), 4, none⟩,
      ⟨some 49, (.move (.tmp 48)), 4, none⟩,
      ⟨some 50, (.move (.tmp 9)), 29, some (49, true)⟩,
      ⟨some 51, (.move (.tmp 12)), 29, some (49, true)⟩,
      ⟨some 52, (.binOp .eql 29 (.tmp 50) (.tmp 51) 29), 4, some (49, true)⟩,
      ⟨some 53, (.pick (.tmp 49) (.tmp 52) (.const (.bool false))), 4, none⟩,
      ⟨some 54, (.move (.tmp 53)), 4, none⟩,
      ⟨some 55, (.call ⟨(.value (.func 73)), #[], #[]⟩), 4, some (54, true)⟩,
      ⟨some 56, (.pick (.tmp 54) (.tmp 55) (.const (.bool false))), 4, none⟩,
      ⟨some 6, (.assign (.tmp 56)), 4, none⟩])
    .ret)))))
theorem C20 {args : List AV} {r : AV} (hn : args.length ≤ 57) (h : vc Try.prog T [] A20 (Fin T [(.tmp 6)] r) ⟨envOf 0 args, []⟩) : CallP Try.prog 20 args r :=
  callP_of tok mixed Try.func20 (by kernel_rfl) (by kernel_rfl) (by kernel_rfl : Try.f20.ntmps = 57) (by kernel_rfl : Try.f20.body.bind (strip 57 (fun _ => [])) = some A20) hn h
def A21 : ACode :=
  (.seq (.reg [] [⟨some 6, (.assign (.const (.bool false))), 4, none⟩])
    (.seq (.seq (.reg [] [⟨some 16, (.move (.tmp 0)), 22, none⟩,
      ⟨some 17, (.call ⟨(.value (.func 71)), #[(.tmp 16)], #[22]⟩), 4, none⟩,
      ⟨some 18, (.move (.tmp 17)), 4, none⟩,
      ⟨some 19, (.move (.tmp 1)), 23, some (18, false)⟩,
      ⟨some 20, (.call ⟨(.value (.func 72)), #[(.tmp 19)], #[23]⟩), 4, some (18, false)⟩,
      ⟨some 21, (.pick (.tmp 18) (.const (.bool true)) (.tmp 20)), 4, none⟩,
      ⟨some 22, (.move (.tmp 21)), 4, none⟩,
      ⟨some 23, (.move (.tmp 2)), 23, some (22, false)⟩,
      ⟨some 24, (.call ⟨(.value (.func 72)), #[(.tmp 23)], #[23]⟩), 4, some (22, false)⟩,
      ⟨some 25, (.pick (.tmp 22) (.const (.bool true)) (.tmp 24)), 4, none⟩])
    (.cond (.tmp 25)
    (.seq (.reg [] [⟨some 26, (.call ⟨(.value (.func 73)), #[], #[]⟩), 4, none⟩,
      ⟨some 6, (.assign (.tmp 26)), 4, none⟩])
    .ret)
    .skip))
    (.seq (.reg [] [⟨some 28, (.move (.tmp 0)), 22, none⟩,
      ⟨some 29, (.move (.tmp 1)), 23, none⟩,
      ⟨some 30, (.move (.tmp 2)), 23, none⟩,
      ⟨some 31, (.call ⟨(.value (.func 92)), #[(.tmp 28), (.tmp 29), (.tmp 30)], #[22, 23, 23]⟩), 97, none⟩,
      ⟨some 27, (.move (.tmp 31)), 97, none⟩,
      ⟨some 32, (.extract (.tmp 27) 0), 88, none⟩,
      ⟨some 33, (.extract (.tmp 27) 1), 4, none⟩,
      ⟨some 34, (.extract (.tmp 27) 2), 29, none⟩,
      ⟨some 7, (.assign (.tmp 32)), 88, none⟩,
      ⟨some 8, (.assign (.tmp 33)), 4, none⟩,
      ⟨some 9, (.assign (.tmp 34)), 29, none⟩])
    (.seq (.reg [] [⟨some 36, (.move (.tmp 0)), 22, none⟩,
      ⟨some 37, (.move (.tmp 1)), 23, none⟩,
      ⟨some 38, (.move (.tmp 2)), 23, none⟩,
      ⟨some 39, (.call ⟨(.value (.func 99)), #[(.tmp 36), (.tmp 37), (.tmp 38)], #[22, 23, 23]⟩), 54, none⟩,
      ⟨some 35, (.move (.tmp 39)), 54, none⟩,
      ⟨some 40, (.extract (.tmp 35) 0), 3, none⟩,
      ⟨some 41, (.extract (.tmp 35) 1), 4, none⟩,
      ⟨some 42, (.extract (.tmp 35) 2), 29, none⟩,
      ⟨some 10, (.assign (.tmp 40)), 3, none⟩,
      ⟨some 11, (.assign (.tmp 41)), 4, none⟩,
      ⟨some 12, (.assign (.tmp 42)), 29, none⟩])
    (.seq (.seq (.reg [] [⟨some 43, (.move (.tmp 9)), 29, none⟩,
      ⟨some 44, (.move (.tmp 12)), 29, none⟩,
      ⟨some 45, (.binOp .neq 29 (.tmp 43) (.tmp 44) 29), 4, none⟩,
      ⟨some 46, (.move (.tmp 45)), 4, none⟩,
      ⟨some 47, (.move (.tmp 8)), 4, some (46, false)⟩,
      ⟨some 48, (.move (.tmp 11)), 4, some (46, false)⟩,
      ⟨some 49, (.binOp .neq 4 (.tmp 47) (.tmp 48) 4), 4, some (46, false)⟩,
      ⟨some 50, (.pick (.tmp 46) (.const (.bool true)) (.tmp 49)), 4, none⟩])
    (.cond (.tmp 50)
    (.seq (.reg [] [⟨some 6, (.assign (.const (.bool false))), 4, none⟩])
    .ret)
    .skip))
    (.seq (.seq (.reg [] [⟨some 51, (.move (.tmp 8)), 4, none⟩,
      ⟨some 52, (.unOp .not 4 (.tmp 51)), 4, none⟩])
    (.cond (.tmp 52)
    (.seq (.reg [] [⟨some 53, (.move (.tmp 7)), 88, none⟩,
      ⟨some 54, (.call ⟨(.builtin .len), #[(.tmp 53)], #[88]⟩), 3, none⟩,
      ⟨some 55, (.binOp .eql 3 (.tmp 54) (.const (.int .i64 0)) 3), 4, none⟩,
      ⟨some 56, (.move (.tmp 55)), 4, none⟩,
      ⟨some 57, (.call ⟨(.value (.func 73)), #[], #[]⟩), 4, some (56, true)⟩,
      ⟨some 58, (.pick (.tmp 56) (.tmp 57) (.const (.bool false))), 4, none⟩,
      ⟨some 6, (.assign (.tmp 58)), 4, none⟩])
    .ret)
    .skip))
    (.seq (.reg [] [⟨some 60, (.move (.tmp 0)), 22, none⟩,
      ⟨some 61, (.move (.tmp 1)), 23, none⟩,
      ⟨some 62, (.move (.tmp 7)), 88, none⟩,
      ⟨some 63, (.call ⟨(.value (.func 98)), #[(.tmp 60), (.tmp 61), (.tmp 62)], #[22, 23, 88]⟩), 99, none⟩,
      ⟨some 59, (.move (.tmp 63)), 99, none⟩,
      ⟨some 64, (.extract (.tmp 59) 0), 23, none⟩,
      ⟨some 65, (.extract (.tmp 59) 1), 3, none⟩,
      ⟨some 66, (.extract (.tmp 59) 2), 29, none⟩,
      ⟨some 13, (.assign (.tmp 64)), 23, none⟩,
      ⟨some 14, (.assign (.tmp 65)), 3, none⟩,
      ⟨some 15, (.assign (.tmp 66)), 29, none⟩])
    (.seq (.reg [] [⟨some 67, (.move (.tmp 15)), 29, none⟩,
      ⟨some 68, (.binOp .eql 29 (.tmp 67) (.const (.int .i64 0)) 29), 4, none⟩,
      ⟨some 69, (.move (.tmp 68)), 4, none⟩,
      ⟨some 70, (.move (.tmp 14)), 3, some (69, true)⟩,
      ⟨some 71, (.move (.tmp 10)), 3, some (69, true)⟩,
      ⟨some 72, (.binOp .eql 3 (.tmp 70) (.tmp 71) 3), 4, some (69, true)⟩,
      ⟨some 73, (.pick (.tmp 69) (.tmp 72) (.const (.bool false))), 4, none⟩,
      ⟨some 74, (.move (.tmp 73)), 4, none⟩,
      ⟨some 75, (.move (.tmp 13)), 23, some (74, true)⟩,
      ⟨some 76, (.move (.tmp 2)), 23, some (74, true)⟩,
      ⟨some 77, (.call ⟨(.value (.func 61)), #[(.tmp 75), (.tmp 76)], #[23, 23]⟩), 4, some (74, true)⟩,
      ⟨some 78, (.pick (.tmp 74) (.tmp 77) (.const (.bool false))), 4, none⟩,
      ⟨some 79, (.move (.tmp 78)), 4, none⟩,
      ⟨some 80, (.call ⟨(.value (.func 73)), #[], #[]⟩), 4, some (79, true)⟩,
      ⟨some 81, (.pick (.tmp 79) (.tmp 80) (.const (.bool false))), 4, none⟩,
      ⟨some 6, (.assign (.tmp 81)), 4, none⟩])
    .ret))))))))
theorem C21 {args : List AV} {r : AV} (hn : args.length ≤ 82) (h : vc Try.prog T [] A21 (Fin T [(.tmp 6)] r) ⟨envOf 0 args, []⟩) : CallP Try.prog 21 args r :=
  callP_of tok mixed Try.func21 (by kernel_rfl) (by kernel_rfl) (by kernel_rfl : Try.f21.ntmps = 82) (by kernel_rfl : Try.f21.body.bind (strip 82 (fun _ => [])) = some A21) hn h
def A24 : ACode :=
  (.seq (.reg [] [⟨some 6, (.assign (.const (.bool false))), 4, none⟩])
    (.seq (.seq (.reg [] [⟨some 17, (.move (.tmp 0)), 22, none⟩,
      ⟨some 18, (.call ⟨(.value (.func 71)), #[(.tmp 17)], #[22]⟩), 4, none⟩,
      ⟨some 19, (.move (.tmp 18)), 4, none⟩,
      ⟨some 20, (.move (.tmp 1)), 23, some (19, false)⟩,
      ⟨some 21, (.call ⟨(.value (.func 72)), #[(.tmp 20)], #[23]⟩), 4, some (19, false)⟩,
      ⟨some 22, (.pick (.tmp 19) (.const (.bool true)) (.tmp 21)), 4, none⟩])
    (.cond (.tmp 22)
    (.seq (.reg [] [⟨some 23, (.call ⟨(.value (.func 73)), #[], #[]⟩), 4, none⟩,
      ⟨some 6, (.assign (.tmp 23)), 4, none⟩])
    .ret)
    .skip))
    (.seq (.reg [] [⟨some 25, (.move (.tmp 0)), 22, none⟩,
      ⟨some 26, (.move (.tmp 1)), 23, none⟩,
      ⟨some 27, (.call ⟨(.value (.func 95)), #[(.tmp 25), (.tmp 26)], #[22, 23]⟩), 32, none⟩,
      ⟨some 24, (.move (.tmp 27)), 32, none⟩,
      ⟨some 28, (.extract (.tmp 24) 0), 23, none⟩,
      ⟨some 29, (.extract (.tmp 24) 1), 29, none⟩,
      ⟨some 7, (.assign (.tmp 28)), 23, none⟩,
      ⟨some 8, (.assign (.tmp 29)), 29, none⟩])
    (.seq (.reg [] [⟨some 31, (.move (.tmp 0)), 22, none⟩,
      ⟨some 32, (.move (.tmp 1)), 23, none⟩,
      ⟨some 33, (.call ⟨(.value (.func 104)), #[(.tmp 31), (.tmp 32)], #[22, 23]⟩), 32, none⟩,
      ⟨some 30, (.move (.tmp 33)), 32, none⟩,
      ⟨some 34, (.extract (.tmp 30) 0), 23, none⟩,
      ⟨some 35, (.extract (.tmp 30) 1), 29, none⟩,
      ⟨some 9, (.assign (.tmp 34)), 23, none⟩,
      ⟨some 10, (.assign (.tmp 35)), 29, none⟩])
    (.seq (.seq (.reg [] [⟨some 36, (.move (.tmp 7)), 23, none⟩,
      ⟨some 37, (.move (.tmp 9)), 23, none⟩,
      ⟨some 38, (.call ⟨(.value (.func 61)), #[(.tmp 36), (.tmp 37)], #[23, 23]⟩), 4, none⟩,
      ⟨some 39, (.unOp .not 4 (.tmp 38)), 4, none⟩,
      ⟨some 40, (.move (.tmp 39)), 4, none⟩,
      ⟨some 41, (.move (.tmp 8)), 29, some (40, false)⟩,
      ⟨some 42, (.move (.tmp 10)), 29, some (40, false)⟩,
      ⟨some 43, (.binOp .neq 29 (.tmp 41) (.tmp 42) 29), 4, some (40, false)⟩,
      ⟨some 44, (.pick (.tmp 40) (.const (.bool true)) (.tmp 43)), 4, none⟩])
    (.cond (.tmp 44)
    (.seq (.reg [] [⟨some 6, (.assign (.const (.bool false))), 4, none⟩])
    .ret)
    .skip))
    (.seq (.seq (.reg [] [⟨some 45, (.move (.tmp 8)), 29, none⟩,
      ⟨some 46, (.binOp .neq 29 (.tmp 45) (.const (.int .i64 0)) 29), 4, none⟩,
      ⟨some 47, (.move (.tmp 46)), 4, none⟩,
      ⟨some 48, (.move (.tmp 7)), 23, some (47, false)⟩,
      ⟨some 49, (.move (.tmp 2)), 3, some (47, false)⟩,
      ⟨some 50, (.call ⟨(.value (.func 67)), #[(.tmp 48), (.tmp 49)], #[23, 3]⟩), 4, some (47, false)⟩,
      ⟨some 51, (.unOp .not 4 (.tmp 50)), 4, some (47, false)⟩,
      ⟨some 52, (.pick (.tmp 47) (.const (.bool true)) (.tmp 51)), 4, none⟩])
    (.cond (.tmp 52)
    (.seq (.reg [] [⟨some 53, (.call ⟨(.value (.func 73)), #[], #[]⟩), 4, none⟩,
      ⟨some 6, (.assign (.tmp 53)), 4, none⟩])
    .ret)
    .skip))
    (.seq (.reg [] [⟨some 55, (.move (.tmp 0)), 22, none⟩,
      ⟨some 56, (.move (.tmp 2)), 3, none⟩,
      ⟨some 57, (.call ⟨(.value (.func 96)), #[(.tmp 55), (.tmp 56)], #[22, 3]⟩), 102, none⟩,
      ⟨some 54, (.move (.tmp 57)), 102, none⟩,
      ⟨some 58, (.extract (.tmp 54) 0), 22, none⟩,
      ⟨some 59, (.extract (.tmp 54) 1), 29, none⟩,
      ⟨some 11, (.assign (.tmp 58)), 22, none⟩,
      ⟨some 12, (.assign (.tmp 59)), 29, none⟩])
    (.seq (.reg [] [⟨some 61, (.move (.tmp 0)), 22, none⟩,
      ⟨some 62, (.move (.tmp 1)), 23, none⟩,
      ⟨some 63, (.call ⟨(.value (.func 74)), #[(.tmp 61), (.tmp 62)], #[22, 23]⟩), 63, none⟩,
      ⟨some 60, (.move (.tmp 63)), 63, none⟩,
      ⟨some 64, (.extract (.tmp 60) 0), 62, none⟩,
      ⟨some 65, (.extract (.tmp 60) 1), 29, none⟩,
      ⟨some 13, (.assign (.tmp 64)), 62, none⟩,
      ⟨some 14, (.assign (.tmp 65)), 29, none⟩])
    (.seq (.reg [] [⟨some 67, (.move (.tmp 11)), 22, none⟩,
      ⟨some 68, (.move (.tmp 1)), 23, none⟩,
      ⟨some 69, (.call ⟨(.value (.func 74)), #[(.tmp 67), (.tmp 68)], #[22, 23]⟩), 63, none⟩,
      ⟨some 66, (.move (.tmp 69)), 63, none⟩,
      ⟨some 70, (.extract (.tmp 66) 0), 62, none⟩,
      ⟨some 71, (.extract (.tmp 66) 1), 29, none⟩,
      ⟨some 15, (.assign (.tmp 70)), 62, none⟩,
      ⟨some 16, (.assign (.tmp 71)), 29, none⟩])
    (.seq (.reg [] [⟨some 72, (.move (.tmp 12)), 29, none⟩,
      ⟨some 73, (.binOp .eql 29 (.tmp 72) (.const (.int .i64 0)) 29), 4, none⟩,
      ⟨some 74, (.move (.tmp 73)), 4, none⟩,
      ⟨some 75, (.move (.tmp 14)), 29, some (74, true)⟩,
      ⟨some 76, (.binOp .eql 29 (.tmp 75) (.const (.int .i64 0)) 29), 4, some (74, true)⟩,
      ⟨some 77, (.pick (.tmp 74) (.tmp 76) (.const (.bool false))), 4, none⟩,
      ⟨some 78, (.move (.tmp 77)), 4, none⟩,
      ⟨some 79, (.move (.tmp 16)), 29, some (78, true)⟩,
      ⟨some 80, (.binOp .eql 29 (.tmp 79) (.const (.int .i64 0)) 29), 4, some (78, true)⟩,
      ⟨some 81, (.pick (.tmp 78) (.tmp 80) (.const (.bool false))), 4, none⟩,
      ⟨some 82, (.move (.tmp 81)), 4, none⟩,
      ⟨some 83, (.move (.tmp 13)), 62, some (82, true)⟩,
      ⟨some 84, (.move (.tmp 15)), 62, some (82, true)⟩,
      ⟨some 85, (.call ⟨(.value (.func 76)), #[(.tmp 83), (.tmp 84)], #[62, 62]⟩), 4, some (82, true)⟩,
      ⟨some 86, (.pick (.tmp 82) (.tmp 85) (.const (.bool false))), 4, none⟩,
      ⟨some 87, (.move (.tmp 86)), 4, none⟩,
      ⟨some 88, (.call ⟨(.value (.func 73)), #[], #[]⟩), 4, some (87, true)⟩,
      ⟨some 89, (.pick (.tmp 87) (.tmp 88) (.const (.bool false))), 4, none⟩,
      ⟨some 6, (.assign (.tmp 89)), 4, none⟩])
    .ret))))))))))
theorem C24 {args : List AV} {r : AV} (hn : args.length ≤ 90) (h : vc Try.prog T [] A24 (Fin T [(.tmp 6)] r) ⟨envOf 0 args, []⟩) : CallP Try.prog 24 args r :=
  callP_of tok mixed Try.func24 (by kernel_rfl) (by kernel_rfl) (by kernel_rfl : Try.f24.ntmps = 90) (by kernel_rfl : Try.f24.body.bind (strip 90 (fun _ => [])) = some A24) hn h
def A82 : ACode :=
  (.seq (.reg [] [⟨some 4, (.assign (.const (.bool false))), 4, none⟩,
      ⟨some 5, (.assign (.const (.int .i64 0))), 29, none⟩])
    (.seq (.reg [] [⟨some 9, (.move (.tmp 0)), 22, none⟩,
      ⟨some 10, (.move (.tmp 1)), 23, none⟩,
      ⟨some 11, (.call ⟨(.value (.func 81)), #[(.tmp 9), (.tmp 10)], #[22, 23]⟩), 89, none⟩,
      ⟨some 8, (.move (.tmp 11)), 89, none⟩,
      ⟨some 12, (.extract (.tmp 8) 0), 88, none⟩,
      ⟨some 13, (.extract (.tmp 8) 1), 29, none⟩,
      ⟨some 6, (.assign (.tmp 12)), 88, none⟩,
      ⟨some 7, (.assign (.tmp 13)), 29, none⟩])
    (.seq (.reg [] [⟨some 14, (.move (.tmp 7)), 29, none⟩,
      ⟨some 15, (.binOp .eql 29 (.tmp 14) (.const (.int .i64 0)) 29), 4, none⟩,
      ⟨some 16, (.move (.tmp 15)), 4, none⟩,
      ⟨some 17, (.move (.tmp 6)), 88, some (16, true)⟩,
      ⟨some 18, (.call ⟨(.builtin .len), #[(.tmp 17)], #[88]⟩), 3, some (16, true)⟩,
      ⟨some 19, (.binOp .eql 3 (.tmp 18) (.const (.int .i64 0)) 3), 4, some (16, true)⟩,
      ⟨some 20, (.pick (.tmp 16) (.tmp 19) (.const (.bool false))), 4, none⟩,
      ⟨some 21, (.move (.tmp 7)), 29, none⟩,
      ⟨some 4, (.assign (.tmp 20)), 4, none⟩,
      ⟨some 5, (.assign (.tmp 21)), 29, none⟩])
    .ret)))
theorem C82 {args : List AV} {r : AV} (hn : args.length ≤ 22) (h : vc Try.prog T [] A82 (Fin T [(.tmp 4), (.tmp 5)] r) ⟨envOf 0 args, []⟩) : CallP Try.prog 82 args r :=
  callP_of tok mixed Try.func82 (by kernel_rfl) (by kernel_rfl) (by kernel_rfl : Try.f82.ntmps = 22) (by kernel_rfl : Try.f82.body.bind (strip 22 (fun _ => [])) = some A82) hn h
def A85 : ACode :=
  (.seq (.reg [] [⟨some 4, (.assign (.const (.bool false))), 4, none⟩])
    (.seq (.seq (.reg [] [⟨some 6, (.move (.tmp 0)), 88, none⟩,
      ⟨some 7, (.call ⟨(.builtin .len), #[(.tmp 6)], #[88]⟩), 3, none⟩,
      ⟨some 8, (.move (.tmp 1)), 88, none⟩,
      ⟨some 9, (.call ⟨(.builtin .len), #[(.tmp 8)], #[88]⟩), 3, none⟩,
      ⟨some 10, (.binOp .neq 3 (.tmp 7) (.tmp 9) 3), 4, none⟩])
    (.cond (.tmp 10)
    (.seq (.reg [] [⟨some 4, (.assign (.const (.bool false))), 4, none⟩])
    .ret)
    .skip))
    (.seq (.seq (.reg [] [⟨some 5, (.assign (.const (.int .i64 0))), 3, none⟩])
    (.block 0 (.loop (.seq (.seq (.reg [] [⟨some 11, (.move (.tmp 5)), 3, none⟩,
      ⟨some 12, (.move (.tmp 0)), 88, none⟩,
      ⟨some 13, (.call ⟨(.builtin .len), #[(.tmp 12)], #[88]⟩), 3, none⟩,
      ⟨some 14, (.binOp .lss 3 (.tmp 11) (.tmp 13) 3), 4, none⟩])
    (.cond (.tmp 14)
    .skip
    (.exit 0)))
    (.seq (.block 1 (.seq (.draw [] [⟨some 17, (.move (.tmp 0)), 88, none⟩,
      ⟨some 18, (.move (.tmp 5)), 3, none⟩,
      ⟨some 19, (.indexAddr 88 (.tmp 17) (.tmp 18)), 0, none⟩,
      ⟨some 20, (.load 46 (.tmp 19)), 46, none⟩,
      ⟨some 21, (.move (.tmp 1)), 88, none⟩,
      ⟨some 22, (.move (.tmp 5)), 3, none⟩,
      ⟨some 23, (.indexAddr 88 (.tmp 21) (.tmp 22)), 0, none⟩,
      ⟨some 24, (.load 46 (.tmp 23)), 46, none⟩,
      ⟨some 25, (.binOp .neq 46 (.tmp 20) (.tmp 24) 46), 4, none⟩] [(0, 1), (0, 4), (1, 4), (2, 4), (3, 4), (0, 5), (1, 5), (2, 5), (3, 5), (4, 5), (0, 6), (1, 6), (2, 6), (3, 6), (0, 7), (1, 7), (2, 7), (3, 7)])
    (.cond (.tmp 25)
    (.seq (.reg [] [⟨some 4, (.assign (.const (.bool false))), 4, none⟩])
    .ret)
    .skip)))
    (.reg [] [⟨some 15, (.move (.tmp 5)), 3, none⟩,
      ⟨some 16, (.binOp .add 3 (.tmp 15) (.const (.int .i64 1)) 3), 3, none⟩,
      ⟨some 5, (.assign (.tmp 16)), 3, none⟩]))))))
    (.seq (.reg [] [⟨some 4, (.assign (.const (.bool true))), 4, none⟩])
    .ret))))
theorem C85 {args : List AV} {r : AV} (hn : args.length ≤ 26) (h : vc Try.prog T [] A85 (Fin T [(.tmp 4)] r) ⟨envOf 0 args, []⟩) : CallP Try.prog 85 args r :=
  callP_of tok mixed Try.func85 (by kernel_rfl) (by kernel_rfl) (by kernel_rfl : Try.f85.ntmps = 26) (by kernel_rfl : Try.f85.body.bind (strip 26 (fun _ => [])) = some A85) hn h
def A92 : ACode :=
  (.seq (.reg [] [⟨some 6, (.assign (.const (.slice none 0 0))), 88, none⟩,
      ⟨some 7, (.assign (.const (.bool false))), 4, none⟩,
      ⟨some 8, (.assign (.const (.int .i64 0))), 29, none⟩])
    (.seq (.seq (.reg [] [⟨some 15, (.move (.tmp 0)), 22, none⟩,
      ⟨some 16, (.move (.tmp 1)), 23, none⟩,
      ⟨some 17, (.move (.tmp 2)), 23, none⟩,
      ⟨some 18, (.buildSlice 62 2 #[(0, (.tmp 16)), (1, (.tmp 17))]), 62, none⟩,
      ⟨some 19, (.call ⟨(.value (.func 140)), #[(.tmp 15), (.tmp 18)], #[22, 62]⟩), 29, none⟩,
      ⟨some 9, (.assign (.tmp 19)), 29, none⟩])
    (.seq (.reg [] [⟨some 20, (.move (.tmp 9)), 29, none⟩,
      ⟨some 21, (.binOp .neq 29 (.tmp 20) (.const (.int .i64 0)) 29), 4, none⟩])
    (.cond (.tmp 21)
    (.seq (.reg [] [⟨some 22, (.move (.tmp 9)), 29, none⟩,
      ⟨some 6, (.assign (.const (.slice none 0 0))), 88, none⟩,
      ⟨some 7, (.assign (.const (.bool false))), 4, none⟩,
      ⟨some 8, (.assign (.tmp 22)), 29, none⟩])
    .ret)
    .skip)))
    (.seq (.reg [] [⟨some 24, (.move (.tmp 0)), 22, none⟩,
      ⟨some 25, (.move (.tmp 1)), 23, none⟩,
      ⟨some 26, (.call ⟨(.value (.func 171)), #[(.tmp 24), (.tmp 25)], #[22, 23]⟩), 160, none⟩,
      ⟨some 23, (.move (.tmp 26)), 160, none⟩,
      ⟨some 27, (.extract (.tmp 23) 0), 159, none⟩,
      ⟨some 28, (.extract (.tmp 23) 1), 29, none⟩,
      ⟨some 10, (.assign (.tmp 27)), 159, none⟩,
      ⟨some 11, (.assign (.tmp 28)), 29, none⟩])
    (.seq (.seq (.reg [] [⟨some 29, (.move (.tmp 11)), 29, none⟩,
      ⟨some 30, (.binOp .neq 29 (.tmp 29) (.const (.int .i64 0)) 29), 4, none⟩])
    (.cond (.tmp 30)
    (.seq (.reg [] [⟨some 31, (.move (.tmp 11)), 29, none⟩,
      ⟨some 6, (.assign (.const (.slice none 0 0))), 88, none⟩,
      ⟨some 7, (.assign (.const (.bool false))), 4, none⟩,
      ⟨some 8, (.assign (.tmp 31)), 29, none⟩])
    .ret)
    .skip))
    (.seq (.draw [] [⟨some 33, (.move (.tmp 10)), 159, none⟩,
      ⟨some 34, (.nilCheck (.tmp 33)), 0, none⟩,
      ⟨some 35, (.fieldAddr 164 (.tmp 34) 2), 0, none⟩,
      ⟨some 36, (.load 162 (.tmp 35)), 162, none⟩,
      ⟨some 37, (.move (.tmp 2)), 23, none⟩,
      ⟨some 38, (.call ⟨(.value (.func 168)), #[(.tmp 37)], #[23]⟩), 9, none⟩,
      ⟨some 39, (.lookup 162 (.tmp 36) (.tmp 38) true), 175, none⟩,
      ⟨some 32, (.move (.tmp 39)), 175, none⟩,
      ⟨some 40, (.extract (.tmp 32) 0), 3, none⟩,
      ⟨some 41, (.extract (.tmp 32) 1), 4, none⟩,
      ⟨some 12, (.assign (.tmp 40)), 3, none⟩,
      ⟨some 13, (.assign (.tmp 41)), 4, none⟩] [(0, 4), (1, 4), (2, 4), (3, 4), (0, 5), (1, 5), (2, 5), (3, 5), (8, 9), (9, 10)])
    (.seq (.seq (.reg [] [⟨some 42, (.move (.tmp 13)), 4, none⟩,
      ⟨some 43, (.unOp .not 4 (.tmp 42)), 4, none⟩])
    (.cond (.tmp 43)
    (.seq (.reg [] [⟨some 6, (.assign (.const (.slice none 0 0))), 88, none⟩,
      ⟨some 7, (.assign (.const (.bool false))), 4, none⟩,
      ⟨some 8, (.assign (.const (.int .i64 0))), 29, none⟩])
    .ret)
    .skip))
    (.seq (.reg [] [⟨some 14, (.assign (.const (.slice none 0 0))), 88, none⟩])
    (.seq (.block 0 (.loop (.seq (.seq (.reg [] [⟨some 44, (.move (.tmp 10)), 159, none⟩,
      ⟨some 45, (.nilCheck (.tmp 44)), 0, none⟩,
      ⟨some 46, (.fieldAddr 164 (.tmp 45) 3), 0, none⟩,
      ⟨some 47, (.load 23 (.tmp 46)), 23, none⟩,
      ⟨some 48, (.move (.tmp 12)), 3, none⟩,
      ⟨some 49, (.indexAddr 23 (.tmp 47) (.tmp 48)), 0, none⟩,
      ⟨some 50, (.load 3 (.tmp 49)), 3, none⟩,
      ⟨some 51, (.binOp .geq 3 (.tmp 50) (.const (.int .i64 0)) 3), 4, none⟩])
    (.cond (.tmp 51)
    .skip
    (.exit 0)))
    (.seq (.block 1 (.reg [] [⟨some 59, (.move (.tmp 14)), 88, none⟩,
      ⟨some 60, (.move (.tmp 10)), 159, none⟩,
      ⟨some 61, (.nilCheck (.tmp 60)), 0, none⟩,
      ⟨some 62, (.fieldAddr 164 (.tmp 61) 4), 0, none⟩,
      ⟨some 63, (.load 88 (.tmp 62)), 88, none⟩,
      ⟨some 64, (.move (.tmp 12)), 3, none⟩,
      ⟨some 65, (.indexAddr 88 (.tmp 63) (.tmp 64)), 0, none⟩,
      ⟨some 66, (.load 46 (.tmp 65)), 46, none⟩,
      ⟨some 67, (.buildSlice 88 1 #[(0, (.tmp 66))]), 88, none⟩,
      ⟨some 68, (.call ⟨(.builtin .append), #[(.tmp 59), (.tmp 67)], #[88, 88]⟩), 88, none⟩,
      ⟨some 14, (.assign (.tmp 68)), 88, none⟩]))
    (.reg [] [⟨some 52, (.move (.tmp 10)), 159, none⟩,
      ⟨some 53, (.nilCheck (.tmp 52)), 0, none⟩,
      ⟨some 54, (.fieldAddr 164 (.tmp 53) 3), 0, none⟩,
      ⟨some 55, (.load 23 (.tmp 54)), 23, none⟩,
      ⟨some 56, (.move (.tmp 12)), 3, none⟩,
      ⟨some 57, (.indexAddr 23 (.tmp 55) (.tmp 56)), 0, none⟩,
      ⟨some 58, (.load 3 (.tmp 57)), 3, none⟩,
      ⟨some 12, (.assign (.tmp 58)), 3, none⟩])))))
    (.seq (.seq (.reg [] [⟨some 69, (.move (.tmp 14)), 88, none⟩,
      ⟨some 70, (.call ⟨(.builtin .len), #[(.tmp 69)], #[88]⟩), 3, none⟩,
      ⟨some 71, (.binOp .gtr 3 (.tmp 70) (.const (.int .i64 60)) 3), 4, none⟩])
    (.cond (.tmp 71)
    (.seq (.reg [] [⟨some 6, (.assign (.const (.slice none 0 0))), 88, none⟩,
      ⟨some 7, (.assign (.const (.bool false))), 4, none⟩,
      ⟨some 8, (.assign (.const (.int .i64 0))), 29, none⟩])
    .ret)
    .skip))
    (.seq (.reg [] [⟨some 72, (.move (.tmp 14)), 88, none⟩,
      ⟨some 73, (.call ⟨(.value (.func 172)), #[(.tmp 72)], #[88]⟩), 0, none⟩])
    (.seq (.reg [] [⟨some 74, (.move (.tmp 14)), 88, none⟩,
      ⟨some 6, (.assign (.tmp 74)), 88, none⟩,
      ⟨some 7, (.assign (.const (.bool true))), 4, none⟩,
      ⟨some 8, (.assign (.const (.int .i64 0))), 29, none⟩])
    .ret)))))))))))
theorem C92 {args : List AV} {r : AV} (hn : args.length ≤ 75) (h : vc Try.prog T [] A92 (Fin T [(.tmp 6), (.tmp 7), (.tmp 8)] r) ⟨envOf 0 args, []⟩) : CallP Try.prog 92 args r :=
  callP_of tok mixed Try.func92 (by kernel_rfl) (by kernel_rfl) (by kernel_rfl : Try.f92.ntmps = 75) (by kernel_rfl : Try.f92.body.bind (strip 75 (fun _ => [])) = some A92) hn h
def A93 : ACode :=
  (.seq (.reg [] [⟨some 6, (.assign (.const (.slice none 0 0))), 23, none⟩,
      ⟨some 7, (.assign (.const (.int .i64 0))), 3, none⟩,
      ⟨some 8, (.assign (.const (.int .i64 0))), 29, none⟩])
    (.seq (.seq (.reg [] [⟨some 14, (.move (.tmp 0)), 22, none⟩,
      ⟨some 15, (.move (.tmp 1)), 23, none⟩,
      ⟨some 16, (.buildSlice 62 1 #[(0, (.tmp 15))]), 62, none⟩,
      ⟨some 17, (.call ⟨(.value (.func 140)), #[(.tmp 14), (.tmp 16)], #[22, 62]⟩), 29, none⟩,
      ⟨some 9, (.assign (.tmp 17)), 29, none⟩])
    (.seq (.reg [] [⟨some 18, (.move (.tmp 9)), 29, none⟩,
      ⟨some 19, (.binOp .neq 29 (.tmp 18) (.const (.int .i64 0)) 29), 4, none⟩])
    (.cond (.tmp 19)
    (.seq (.reg [] [⟨some 20, (.move (.tmp 9)), 29, none⟩,
      ⟨some 6, (.assign (.const (.slice none 0 0))), 23, none⟩,
      ⟨some 7, (.assign (.const (.int .i64 0))), 3, none⟩,
      ⟨some 8, (.assign (.tmp 20)), 29, none⟩])
    .ret)
    .skip)))
    (.seq (.seq (.reg [] [⟨some 21, (.move (.tmp 2)), 88, none⟩,
      ⟨some 22, (.call ⟨(.builtin .len), #[(.tmp 21)], #[88]⟩), 3, none⟩,
      ⟨some 23, (.binOp .gtr 3 (.tmp 22) (.const (.int .i64 60)) 3), 4, none⟩])
    (.cond (.tmp 23)
    (.seq (.reg [] [⟨some 6, (.assign (.const (.slice none 0 0))), 23, none⟩,
      ⟨some 7, (.assign (.const (.int .i64 0))), 3, none⟩,
      ⟨some 8, (.assign (.const (.int .i64 3))), 29, none⟩])
    .ret)
    .skip))
    (.seq (.reg [] [⟨some 24, (.move (.tmp 1)), 23, none⟩,
      ⟨some 25, (.call ⟨(.value (.func 152)), #[(.tmp 24)], #[23]⟩), 23, none⟩,
      ⟨some 1, (.assign (.tmp 25)), 23, none⟩])
    (.seq (.seq (.reg [] [⟨some 26, (.move (.tmp 2)), 88, none⟩,
      ⟨some 27, (.call ⟨(.builtin .len), #[(.tmp 26)], #[88]⟩), 3, none⟩,
      ⟨some 28, (.move (.const (.int .i64 0))), 3, none⟩])
    (.block 0 (.loop (.seq (.reg [] [⟨some 29, (.binOp .lss 3 (.tmp 28) (.tmp 27) 3), 0, none⟩])
    (.seq (.cond (.tmp 29)
    .skip
    (.exit 0))
    (.seq (.block 1 (.seq (.reg [] [⟨some 30, (.move (.tmp 28)), 3, none⟩,
      ⟨some 31, (.indexAddr 88 (.tmp 26) (.tmp 28)), 0, none⟩,
      ⟨some 32, (.load 46 (.tmp 31)), 46, none⟩,
      ⟨some 11, (.alloc 46), 0, none⟩,
      ⟨some 10, (.assign (.tmp 30)), 3, none⟩,
      ⟨none, (.store 46 (.tmp 11) (.tmp 32)), 0, none⟩])
    (.seq (.seq (.reg [] [⟨some 33, (.fieldAddr 46 (.tmp 11) 0), 0, none⟩,
      ⟨some 34, (.load 3 (.tmp 33)), 3, none⟩,
      ⟨some 35, (.move (.tmp 0)), 22, none⟩,
      ⟨some 36, (.call ⟨(.builtin .len), #[(.tmp 35)], #[22]⟩), 3, none⟩,
      ⟨some 37, (.binOp .sub 3 (.tmp 36) (.const (.int .i64 1)) 3), 3, none⟩,
      ⟨some 38, (.call ⟨(.value (.func 173)), #[(.tmp 34), (.const (.int .i64 0)), (.tmp 37)], #[3, 3, 3]⟩), 4, none⟩,
      ⟨some 39, (.unOp .not 4 (.tmp 38)), 4, none⟩])
    (.cond (.tmp 39)
    (.seq (.reg [] [⟨some 40, (.move (.tmp 10)), 3, none⟩,
      ⟨some 6, (.assign (.const (.slice none 0 0))), 23, none⟩,
      ⟨some 7, (.assign (.tmp 40)), 3, none⟩,
      ⟨some 8, (.assign (.const (.int .i64 4))), 29, none⟩])
    .ret)
    .skip))
    (.seq (.draw [] [⟨some 42, (.move (.tmp 0)), 22, none⟩,
      ⟨some 43, (.fieldAddr 46 (.tmp 11) 0), 0, none⟩,
      ⟨some 44, (.load 3 (.tmp 43)), 3, none⟩,
      ⟨some 45, (.indexAddr 22 (.tmp 42) (.tmp 44)), 0, none⟩,
      ⟨some 46, (.load 72 (.tmp 45)), 72, none⟩,
      ⟨some 47, (.move (.tmp 1)), 23, none⟩,
      ⟨some 48, (.fieldAddr 46 (.tmp 11) 1), 0, none⟩,
      ⟨some 49, (.load 3 (.tmp 48)), 3, none⟩,
      ⟨some 50, (.call ⟨(.value (.func 70)), #[(.tmp 46), (.tmp 47), (.tmp 49)], #[72, 23, 3]⟩), 32, none⟩,
      ⟨some 41, (.move (.tmp 50)), 32, none⟩,
      ⟨some 51, (.extract (.tmp 41) 0), 23, none⟩,
      ⟨some 52, (.extract (.tmp 41) 1), 29, none⟩,
      ⟨some 12, (.assign (.tmp 51)), 23, none⟩,
      ⟨some 13, (.assign (.tmp 52)), 29, none⟩] [(0, 1), (0, 2), (0, 5), (1, 5), (2, 5), (3, 5), (4, 5), (0, 6), (1, 6), (2, 6), (3, 6), (4, 6), (5, 6), (0, 7), (1, 7), (2, 7), (3, 7), (4, 7), (5, 7), (10, 11), (11, 12)])
    (.seq (.seq (.reg [] [⟨some 53, (.move (.tmp 13)), 29, none⟩,
      ⟨some 54, (.binOp .neq 29 (.tmp 53) (.const (.int .i64 0)) 29), 4, none⟩])
    (.cond (.tmp 54)
    (.seq (.reg [] [⟨some 55, (.move (.tmp 10)), 3, none⟩,
      ⟨some 6, (.assign (.const (.slice none 0 0))), 23, none⟩,
      ⟨some 7, (.assign (.tmp 55)), 3, none⟩,
      ⟨some 8, (.assign (.const (.int .i64 6))), 29, none⟩])
    .ret)
    .skip))
    (.reg [] [⟨some 56, (.move (.tmp 12)), 23, none⟩,
      ⟨some 1, (.assign (.tmp 56)), 23, none⟩]))))))
    (.reg [] [⟨some 57, (.binOp .add 3 (.tmp 28) (.const (.int .i64 1)) 3), 3, none⟩,
      ⟨some 28, (.move (.tmp 57)), 3, none⟩])))))))
    (.seq (.reg [] [⟨some 58, (.move (.tmp 1)), 23, none⟩,
      ⟨some 59, (.move (.tmp 2)), 88, none⟩,
      ⟨some 60, (.call ⟨(.builtin .len), #[(.tmp 59)], #[88]⟩), 3, none⟩,
      ⟨some 6, (.assign (.tmp 58)), 23, none⟩,
      ⟨some 7, (.assign (.tmp 60)), 3, none⟩,
      ⟨some 8, (.assign (.const (.int .i64 0))), 29, none⟩])
    .ret))))))
theorem C93 {args : List AV} {r : AV} (hn : args.length ≤ 61) (h : vc Try.prog T [] A93 (Fin T [(.tmp 6), (.tmp 7), (.tmp 8)] r) ⟨envOf 0 args, []⟩) : CallP Try.prog 93 args r :=
  callP_of tok mixed Try.func93 (by kernel_rfl) (by kernel_rfl) (by kernel_rfl : Try.f93.ntmps = 61) (by kernel_rfl : Try.f93.body.bind (strip 61 (fun _ => [])) = some A93) hn h
def A95 : ACode :=
  (.seq (.reg [] [⟨some 4, (.assign (.const (.slice none 0 0))), 23, none⟩,
      ⟨some 5, (.assign (.const (.int .i64 0))), 29, none⟩])
    (.seq (.reg [] [⟨some 17, (.move (.tmp 0)), 22, none⟩,
      ⟨some 18, (.move (.tmp 1)), 23, none⟩,
      ⟨some 19, (.call ⟨(.value (.func 157)), #[(.tmp 17), (.tmp 18)], #[22, 23]⟩), 160, none⟩,
      ⟨some 16, (.move (.tmp 19)), 160, none⟩,
      ⟨some 20, (.extract (.tmp 16) 0), 159, none⟩,
      ⟨some 21, (.extract (.tmp 16) 1), 29, none⟩,
      ⟨some 6, (.assign (.tmp 20)), 159, none⟩,
      ⟨some 7, (.assign (.tmp 21)), 29, none⟩])
    (.seq (.seq (.reg [] [⟨some 22, (.move (.tmp 7)), 29, none⟩,
      ⟨some 23, (.binOp .neq 29 (.tmp 22) (.const (.int .i64 0)) 29), 4, none⟩])
    (.cond (.tmp 23)
    (.seq (.reg [] [⟨some 24, (.move (.tmp 7)), 29, none⟩,
      ⟨some 4, (.assign (.const (.slice none 0 0))), 23, none⟩,
      ⟨some 5, (.assign (.tmp 24)), 29, none⟩])
    .ret)
    .skip))
    (.seq (.reg [] [⟨some 25, (.move (.tmp 0)), 22, none⟩,
      ⟨some 26, (.call ⟨(.builtin .len), #[(.tmp 25)], #[22]⟩), 3, none⟩,
      ⟨some 27, (.makeSlice 180 (.tmp 26) (.tmp 26)), 180, none⟩,
      ⟨some 8, (.assign (.tmp 27)), 180, none⟩])
    (.seq (.seq (.reg [] [⟨some 28, (.move (.tmp 6)), 159, none⟩,
      ⟨some 29, (.nilCheck (.tmp 28)), 0, none⟩,
      ⟨some 30, (.fieldAddr 164 (.tmp 29) 1), 0, none⟩,
      ⟨some 31, (.load 62 (.tmp 30)), 62, none⟩,
      ⟨some 32, (.call ⟨(.builtin .len), #[(.tmp 31)], #[62]⟩), 3, none⟩,
      ⟨some 33, (.move (.const (.int .i64 0))), 3, none⟩])
    (.block 0 (.loop (.seq (.reg [] [⟨some 34, (.binOp .lss 3 (.tmp 33) (.tmp 32) 3), 0, none⟩])
    (.seq (.cond (.tmp 34)
    .skip
    (.exit 0))
    (.seq (.block 1 (.seq (.reg [] [⟨some 35, (.indexAddr 62 (.tmp 31) (.tmp 33)), 0, none⟩,
      ⟨some 36, (.load 23 (.tmp 35)), 23, none⟩,
      ⟨some 10, (.assign (.tmp 36)), 23, none⟩])
    (.seq (.reg [] [⟨some 37, (.move (.tmp 0)), 22, none⟩,
      ⟨some 38, (.move (.tmp 10)), 23, none⟩,
      ⟨some 39, (.call ⟨(.value (.func 141)), #[(.tmp 37), (.tmp 38)], #[22, 23]⟩), 143, none⟩,
      ⟨some 40, (.call ⟨(.builtin .len), #[(.tmp 39)], #[143]⟩), 3, none⟩,
      ⟨some 41, (.move (.const (.int .i64 0))), 3, none⟩])
    (.block 2 (.loop (.seq (.reg [] [⟨some 42, (.binOp .lss 3 (.tmp 41) (.tmp 40) 3), 0, none⟩])
    (.seq (.cond (.tmp 42)
    .skip
    (.exit 2))
    (.seq (.block 3 (.seq (.reg [] [⟨some 43, (.indexAddr 143 (.tmp 39) (.tmp 41)), 0, none⟩,
      ⟨some 44, (.load 172 (.tmp 43)), 172, none⟩,
      ⟨some 12, (.alloc 172), 0, none⟩,
      ⟨none, (.store 172 (.tmp 12) (.tmp 44)), 0, none⟩])
    (.reg [] [⟨some 45, (.move (.tmp 8)), 180, none⟩,
      ⟨some 46, (.fieldAddr 172 (.tmp 12) 0), 0, none⟩,
      ⟨some 47, (.fieldAddr 46 (.tmp 46) 0), 0, none⟩,
      ⟨some 48, (.load 3 (.tmp 47)), 3, none⟩,
      ⟨some 49, (.indexAddr 180 (.tmp 45) (.tmp 48)), 0, none⟩,
      ⟨none, (.store 4 (.tmp 49) (.const (.bool true))), 0, none⟩])))
    (.reg [] [⟨some 50, (.binOp .add 3 (.tmp 41) (.const (.int .i64 1)) 3), 3, none⟩,
      ⟨some 41, (.move (.tmp 50)), 3, none⟩])))))))))
    (.reg [] [⟨some 51, (.binOp .add 3 (.tmp 33) (.const (.int .i64 1)) 3), 3, none⟩,
      ⟨some 33, (.move (.tmp 51)), 3, none⟩])))))))
    (.seq (.reg [] [⟨some 13, (.assign (.const (.slice none 0 0))), 23, none⟩])
    (.seq (.seq (.reg [] [⟨some 52, (.move (.tmp 8)), 180, none⟩,
      ⟨some 53, (.call ⟨(.builtin .len), #[(.tmp 52)], #[180]⟩), 3, none⟩,
      ⟨some 54, (.move (.const (.int .i64 0))), 3, none⟩])
    (.block 4 (.loop (.seq (.reg [] [⟨some 55, (.binOp .lss 3 (.tmp 54) (.tmp 53) 3), 0, none⟩])
    (.seq (.cond (.tmp 55)
    .skip
    (.exit 4))
    (.seq (.block 5 (.seq (.reg [] [⟨some 56, (.move (.tmp 54)), 3, none⟩,
      ⟨some 57, (.indexAddr 180 (.tmp 52) (.tmp 54)), 0, none⟩,
      ⟨some 58, (.load 4 (.tmp 57)), 4, none⟩,
      ⟨some 14, (.assign (.tmp 56)), 3, none⟩,
      ⟨some 15, (.assign (.tmp 58)), 4, none⟩])
    (.seq (.reg [] [⟨some 59, (.move (.tmp 15)), 4, none⟩,
      ⟨some 60, (.unOp .not 4 (.tmp 59)), 4, none⟩])
    (.cond (.tmp 60)
    (.reg [] [⟨some 61, (.move (.tmp 13)), 23, none⟩,
      ⟨some 62, (.move (.tmp 14)), 3, none⟩,
      ⟨some 63, (.buildSlice 23 1 #[(0, (.tmp 62))]), 23, none⟩,
      ⟨some 64, (.call ⟨(.builtin .append), #[(.tmp 61), (.tmp 63)], #[23, 23]⟩), 23, none⟩,
      ⟨some 13, (.assign (.tmp 64)), 23, none⟩])
    .skip))))
    (.reg [] [⟨some 65, (.binOp .add 3 (.tmp 54) (.const (.int .i64 1)) 3), 3, none⟩,
      ⟨some 54, (.move (.tmp 65)), 3, none⟩])))))))
    (.seq (.reg [] [⟨some 66, (.move (.tmp 13)), 23, none⟩,
      ⟨some 4, (.assign (.tmp 66)), 23, none⟩,
      ⟨some 5, (.assign (.const (.int .i64 0))), 29, none⟩])
    .ret))))))))
theorem C95 {args : List AV} {r : AV} (hn : args.length ≤ 67) (h : vc Try.prog T [] A95 (Fin T [(.tmp 4), (.tmp 5)] r) ⟨envOf 0 args, []⟩) : CallP Try.prog 95 args r :=
  callP_of tok mixed Try.func95 (by kernel_rfl) (by kernel_rfl) (by kernel_rfl : Try.f95.ntmps = 67) (by kernel_rfl : Try.f95.body.bind (strip 67 (fun _ => [])) = some A95) hn h
def A96 : ACode :=
  (.seq (.reg [] [⟨some 4, (.assign (.const (.slice none 0 0))), 22, none⟩,
      ⟨some 5, (.assign (.const (.int .i64 0))), 29, none⟩])
    (.seq (.seq (.reg [] [⟨some 10, (.move (.tmp 0)), 22, none⟩,
      ⟨some 11, (.call ⟨(.value (.func 83)), #[(.tmp 10)], #[22]⟩), 29, none⟩,
      ⟨some 6, (.assign (.tmp 11)), 29, none⟩])
    (.seq (.reg [] [⟨some 12, (.move (.tmp 6)), 29, none⟩,
      ⟨some 13, (.binOp .neq 29 (.tmp 12) (.const (.int .i64 0)) 29), 4, none⟩])
    (.cond (.tmp 13)
    (.seq (.reg [] [⟨some 14, (.move (.tmp 6)), 29, none⟩,
      ⟨some 4, (.assign (.const (.slice none 0 0))), 22, none⟩,
      ⟨some 5, (.assign (.tmp 14)), 29, none⟩])
    .ret)
    .skip)))
    (.seq (.seq (.reg [] [⟨some 15, (.move (.tmp 1)), 3, none⟩,
      ⟨some 16, (.move (.tmp 0)), 22, none⟩,
      ⟨some 17, (.call ⟨(.builtin .len), #[(.tmp 16)], #[22]⟩), 3, none⟩,
      ⟨some 18, (.binOp .sub 3 (.tmp 17) (.const (.int .i64 1)) 3), 3, none⟩,
      ⟨some 19, (.call ⟨(.value (.func 173)), #[(.tmp 15), (.const (.int .i64 0)), (.tmp 18)], #[3, 3, 3]⟩), 4, none⟩,
      ⟨some 20, (.unOp .not 4 (.tmp 19)), 4, none⟩])
    (.cond (.tmp 20)
    (.seq (.reg [] [⟨some 4, (.assign (.const (.slice none 0 0))), 22, none⟩,
      ⟨some 5, (.assign (.const (.int .i64 4))), 29, none⟩])
    .ret)
    .skip))
    (.seq (.reg [] [⟨some 7, (.assign (.const (.slice none 0 0))), 22, none⟩])
    (.seq (.seq (.reg [] [⟨some 21, (.move (.tmp 0)), 22, none⟩,
      ⟨some 22, (.call ⟨(.builtin .len), #[(.tmp 21)], #[22]⟩), 3, none⟩,
      ⟨some 23, (.move (.const (.int .i64 0))), 3, none⟩])
    (.block 0 (.loop (.seq (.reg [] [⟨some 24, (.binOp .lss 3 (.tmp 23) (.tmp 22) 3), 0, none⟩])
    (.seq (.cond (.tmp 24)
    .skip
    (.exit 0))
    (.seq (.block 1 (.seq (.reg [] [⟨some 25, (.move (.tmp 23)), 3, none⟩,
      ⟨some 26, (.indexAddr 22 (.tmp 21) (.tmp 23)), 0, none⟩,
      ⟨some 27, (.load 72 (.tmp 26)), 72, none⟩,
      ⟨some 9, (.alloc 72), 0, none⟩,
      ⟨some 8, (.assign (.tmp 25)), 3, none⟩,
      ⟨none, (.store 72 (.tmp 9) (.tmp 27)), 0, none⟩])
    (.seq (.reg [] [⟨some 28, (.move (.tmp 8)), 3, none⟩,
      ⟨some 29, (.move (.tmp 1)), 3, none⟩,
      ⟨some 30, (.binOp .neq 3 (.tmp 28) (.tmp 29) 3), 4, none⟩])
    (.cond (.tmp 30)
    (.draw [] [⟨some 31, (.move (.tmp 7)), 22, none⟩,
      ⟨some 32, (.fieldAddr 72 (.tmp 9) 0), 0, none⟩,
      ⟨some 33, (.load 3 (.tmp 32)), 3, none⟩,
      ⟨some 34, (.fieldAddr 72 (.tmp 9) 1), 0, none⟩,
      ⟨some 35, (.load 23 (.tmp 34)), 23, none⟩,
      ⟨some 36, (.call ⟨(.value (.func 152)), #[(.tmp 35)], #[23]⟩), 23, none⟩,
      ⟨some 37, (.fieldAddr 72 (.tmp 9) 2), 0, none⟩,
      ⟨some 38, (.load 23 (.tmp 37)), 23, none⟩,
      ⟨some 39, (.call ⟨(.value (.func 152)), #[(.tmp 38)], #[23]⟩), 23, none⟩,
      ⟨some 40, (.fieldAddr 72 (.tmp 9) 3), 0, none⟩,
      ⟨some 41, (.load 23 (.tmp 40)), 23, none⟩,
      ⟨some 42, (.call ⟨(.value (.func 152)), #[(.tmp 41)], #[23]⟩), 23, none⟩,
      ⟨some 43, (.build 72 #[(0, (.tmp 33)), (1, (.tmp 36)), (2, (.tmp 39)), (3, (.tmp 42))]), 72, none⟩,
      ⟨some 44, (.buildSlice 22 1 #[(0, (.tmp 43))]), 22, none⟩,
      ⟨some 45, (.call ⟨(.builtin .append), #[(.tmp 31), (.tmp 44)], #[22, 22]⟩), 22, none⟩,
      ⟨some 7, (.assign (.tmp 45)), 22, none⟩] [(0, 1), (0, 2), (0, 3), (1, 3), (2, 3), (0, 4), (1, 4), (2, 4), (0, 5), (1, 5), (2, 5), (0, 6), (1, 6), (2, 6), (3, 6), (4, 6), (5, 6), (0, 7), (1, 7), (2, 7), (3, 7), (4, 7), (5, 7), (0, 8), (1, 8), (2, 8), (0, 9), (1, 9), (2, 9), (3, 9), (4, 9), (5, 9), (6, 9), (7, 9), (8, 9), (0, 10), (1, 10), (2, 10), (3, 10), (4, 10), (5, 10), (6, 10), (7, 10), (8, 10), (0, 11), (1, 11), (2, 11), (0, 12), (0, 13)])
    .skip))))
    (.reg [] [⟨some 46, (.binOp .add 3 (.tmp 23) (.const (.int .i64 1)) 3), 3, none⟩,
      ⟨some 23, (.move (.tmp 46)), 3, none⟩])))))))
    (.seq (.reg [] [⟨some 47, (.move (.tmp 7)), 22, none⟩,
      ⟨some 4, (.assign (.tmp 47)), 22, none⟩,
      ⟨some 5, (.assign (.const (.int .i64 0))), 29, none⟩])
    .ret))))))
theorem C96 {args : List AV} {r : AV} (hn : args.length ≤ 48) (h : vc Try.prog T [] A96 (Fin T [(.tmp 4), (.tmp 5)] r) ⟨envOf 0 args, []⟩) : CallP Try.prog 96 args r :=
  callP_of tok mixed Try.func96 (by kernel_rfl) (by kernel_rfl) (by kernel_rfl : Try.f96.ntmps = 48) (by kernel_rfl : Try.f96.body.bind (strip 48 (fun _ => [])) = some A96) hn h
def A98 : ACode :=
  (.seq (.reg [] [⟨some 6, (.assign (.const (.slice none 0 0))), 23, none⟩,
      ⟨some 7, (.assign (.const (.int .i64 0))), 3, none⟩,
      ⟨some 8, (.assign (.const (.int .i64 0))), 29, none⟩])
    (.seq (.seq (.reg [] [⟨some 14, (.move (.tmp 0)), 22, none⟩,
      ⟨some 15, (.move (.tmp 1)), 23, none⟩,
      ⟨some 16, (.call ⟨(.value (.func 162)), #[(.tmp 14), (.tmp 15), (.const (.slice none 0 0))], #[22, 23, 23]⟩), 29, none⟩,
      ⟨some 9, (.assign (.tmp 16)), 29, none⟩])
    (.seq (.reg [] [⟨some 17, (.move (.tmp 9)), 29, none⟩,
      ⟨some 18, (.binOp .neq 29 (.tmp 17) (.const (.int .i64 0)) 29), 4, none⟩])
    (.cond (.tmp 18)
    (.seq (.reg [] [⟨some 19, (.move (.tmp 9)), 29, none⟩,
      ⟨some 6, (.assign (.const (.slice none 0 0))), 23, none⟩,
      ⟨some 7, (.assign (.const (.int .i64 0))), 3, none⟩,
      ⟨some 8, (.assign (.tmp 19)), 29, none⟩])
    .ret)
    .skip)))
    (.seq (.seq (.reg [] [⟨some 20, (.move (.tmp 2)), 88, none⟩,
      ⟨some 21, (.call ⟨(.builtin .len), #[(.tmp 20)], #[88]⟩), 3, none⟩,
      ⟨some 22, (.binOp .gtr 3 (.tmp 21) (.const (.int .i64 60)) 3), 4, none⟩])
    (.cond (.tmp 22)
    (.seq (.reg [] [⟨some 6, (.assign (.const (.slice none 0 0))), 23, none⟩,
      ⟨some 7, (.assign (.const (.int .i64 0))), 3, none⟩,
      ⟨some 8, (.assign (.const (.int .i64 3))), 29, none⟩])
    .ret)
    .skip))
    (.seq (.reg [] [⟨some 23, (.buildSlice 23 0 #[]), 23, none⟩,
      ⟨some 24, (.move (.tmp 1)), 23, none⟩,
      ⟨some 25, (.call ⟨(.builtin .append), #[(.tmp 23), (.tmp 24)], #[23, 23]⟩), 23, none⟩,
      ⟨some 10, (.assign (.tmp 25)), 23, none⟩])
    (.seq (.seq (.reg [] [⟨some 11, (.assign (.const (.int .i64 0))), 3, none⟩])
    (.block 0 (.loop (.seq (.seq (.reg [] [⟨some 26, (.move (.tmp 11)), 3, none⟩,
      ⟨some 27, (.move (.tmp 2)), 88, none⟩,
      ⟨some 28, (.call ⟨(.builtin .len), #[(.tmp 27)], #[88]⟩), 3, none⟩,
      ⟨some 29, (.binOp .lss 3 (.tmp 26) (.tmp 28) 3), 4, none⟩])
    (.cond (.tmp 29)
    .skip
    (.exit 0)))
    (.seq (.block 1 (.seq (.seq (.reg [] [⟨some 32, (.move (.tmp 2)), 88, none⟩,
      ⟨some 33, (.move (.tmp 11)), 3, none⟩,
      ⟨some 34, (.indexAddr 88 (.tmp 32) (.tmp 33)), 0, none⟩,
      ⟨some 35, (.fieldAddr 46 (.tmp 34) 0), 0, none⟩,
      ⟨some 36, (.load 3 (.tmp 35)), 3, none⟩,
      ⟨some 37, (.move (.tmp 0)), 22, none⟩,
      ⟨some 38, (.call ⟨(.builtin .len), #[(.tmp 37)], #[22]⟩), 3, none⟩,
      ⟨some 39, (.binOp .sub 3 (.tmp 38) (.const (.int .i64 1)) 3), 3, none⟩,
      ⟨some 40, (.call ⟨(.value (.func 176)), #[(.tmp 36), (.const (.int .i64 0)), (.tmp 39)], #[3, 3, 3]⟩), 4, none⟩,
      ⟨some 41, (.unOp .not 4 (.tmp 40)), 4, none⟩])
    (.cond (.tmp 41)
    (.seq (.reg [] [⟨some 42, (.move (.tmp 11)), 3, none⟩,
      ⟨some 6, (.assign (.const (.slice none 0 0))), 23, none⟩,
      ⟨some 7, (.assign (.tmp 42)), 3, none⟩,
      ⟨some 8, (.assign (.const (.int .i64 4))), 29, none⟩])
    .ret)
    .skip))
    (.seq (.draw [] [⟨some 44, (.move (.tmp 0)), 22, none⟩,
      ⟨some 45, (.move (.tmp 2)), 88, none⟩,
      ⟨some 46, (.move (.tmp 11)), 3, none⟩,
      ⟨some 47, (.indexAddr 88 (.tmp 45) (.tmp 46)), 0, none⟩,
      ⟨some 48, (.fieldAddr 46 (.tmp 47) 0), 0, none⟩,
      ⟨some 49, (.load 3 (.tmp 48)), 3, none⟩,
      ⟨some 50, (.indexAddr 22 (.tmp 44) (.tmp 49)), 0, none⟩,
      ⟨some 51, (.load 72 (.tmp 50)), 72, none⟩,
      ⟨some 52, (.move (.tmp 10)), 23, none⟩,
      ⟨some 53, (.move (.tmp 2)), 88, none⟩,
      ⟨some 54, (.move (.tmp 11)), 3, none⟩,
      ⟨some 55, (.indexAddr 88 (.tmp 53) (.tmp 54)), 0, none⟩,
      ⟨some 56, (.fieldAddr 46 (.tmp 55) 1), 0, none⟩,
      ⟨some 57, (.load 3 (.tmp 56)), 3, none⟩,
      ⟨some 58, (.call ⟨(.value (.func 177)), #[(.tmp 51), (.tmp 52), (.tmp 57)], #[72, 23, 3]⟩), 32, none⟩,
      ⟨some 43, (.move (.tmp 58)), 32, none⟩,
      ⟨some 59, (.extract (.tmp 43) 0), 23, none⟩,
      ⟨some 60, (.extract (.tmp 43) 1), 29, none⟩,
      ⟨some 12, (.assign (.tmp 59)), 23, none⟩,
      ⟨some 13, (.assign (.tmp 60)), 29, none⟩] [(0, 1), (0, 2), (1, 2), (0, 3), (0, 4), (0, 5), (0, 8), (1, 8), (2, 8), (3, 8), (4, 8), (5, 8), (6, 8), (7, 8), (0, 9), (1, 9), (2, 9), (3, 9), (4, 9), (5, 9), (6, 9), (7, 9), (8, 9), (0, 10), (1, 10), (2, 10), (3, 10), (4, 10), (5, 10), (6, 10), (7, 10), (8, 10), (9, 10), (0, 11), (1, 11), (2, 11), (3, 11), (4, 11), (5, 11), (6, 11), (7, 11), (8, 11), (0, 12), (1, 12), (2, 12), (3, 12), (4, 12), (5, 12), (6, 12), (7, 12), (8, 12), (0, 13), (1, 13), (2, 13), (3, 13), (4, 13), (5, 13), (6, 13), (7, 13), (8, 13), (16, 17), (17, 18)])
    (.seq (.seq (.reg [] [⟨some 61, (.move (.tmp 13)), 29, none⟩,
      ⟨some 62, (.binOp .neq 29 (.tmp 61) (.const (.int .i64 0)) 29), 4, none⟩])
    (.cond (.tmp 62)
    (.seq (.reg [] [⟨some 63, (.move (.tmp 11)), 3, none⟩,
      ⟨some 6, (.assign (.const (.slice none 0 0))), 23, none⟩,
      ⟨some 7, (.assign (.tmp 63)), 3, none⟩,
      ⟨some 8, (.assign (.const (.int .i64 6))), 29, none⟩])
    .ret)
    .skip))
    (.reg [] [⟨some 64, (.move (.tmp 12)), 23, none⟩,
      ⟨some 10, (.assign (.tmp 64)), 23, none⟩])))))
    (.reg [] [⟨some 30, (.move (.tmp 11)), 3, none⟩,
      ⟨some 31, (.binOp .add 3 (.tmp 30) (.const (.int .i64 1)) 3), 3, none⟩,
      ⟨some 11, (.assign (.tmp 31)), 3, none⟩]))))))
    (.seq (.reg [] [⟨some 65, (.move (.tmp 10)), 23, none⟩,
      ⟨some 66, (.move (.tmp 2)), 88, none⟩,
      ⟨some 67, (.call ⟨(.builtin .len), #[(.tmp 66)], #[88]⟩), 3, none⟩,
      ⟨some 6, (.assign (.tmp 65)), 23, none⟩,
      ⟨some 7, (.assign (.tmp 67)), 3, none⟩,
      ⟨some 8, (.assign (.const (.int .i64 0))), 29, none⟩])
    .ret))))))
theorem C98 {args : List AV} {r : AV} (hn : args.length ≤ 68) (h : vc Try.prog T [] A98 (Fin T [(.tmp 6), (.tmp 7), (.tmp 8)] r) ⟨envOf 0 args, []⟩) : CallP Try.prog 98 args r :=
  callP_of tok mixed Try.func98 (by kernel_rfl) (by kernel_rfl) (by kernel_rfl : Try.f98.ntmps = 68) (by kernel_rfl : Try.f98.body.bind (strip 68 (fun _ => [])) = some A98) hn h
def A99 : ACode :=
  (.seq (.reg [] [⟨some 6, (.assign (.const (.int .i64 0))), 3, none⟩,
      ⟨some 7, (.assign (.const (.bool false))), 4, none⟩,
      ⟨some 8, (.assign (.const (.int .i64 0))), 29, none⟩])
    (.seq (.seq (.reg [] [⟨some 13, (.move (.tmp 0)), 22, none⟩,
      ⟨some 14, (.move (.tmp 1)), 23, none⟩,
      ⟨some 15, (.move (.tmp 2)), 23, none⟩,
      ⟨some 16, (.call ⟨(.value (.func 162)), #[(.tmp 13), (.tmp 14), (.tmp 15)], #[22, 23, 23]⟩), 29, none⟩,
      ⟨some 9, (.assign (.tmp 16)), 29, none⟩])
    (.seq (.reg [] [⟨some 17, (.move (.tmp 9)), 29, none⟩,
      ⟨some 18, (.binOp .neq 29 (.tmp 17) (.const (.int .i64 0)) 29), 4, none⟩])
    (.cond (.tmp 18)
    (.seq (.reg [] [⟨some 19, (.move (.tmp 9)), 29, none⟩,
      ⟨some 6, (.assign (.const (.int .i64 0))), 3, none⟩,
      ⟨some 7, (.assign (.const (.bool false))), 4, none⟩,
      ⟨some 8, (.assign (.tmp 19)), 29, none⟩])
    .ret)
    .skip)))
    (.seq (.reg [] [⟨some 21, (.move (.tmp 0)), 22, none⟩,
      ⟨some 22, (.move (.tmp 1)), 23, none⟩,
      ⟨some 23, (.call ⟨(.value (.func 159)), #[(.tmp 21), (.tmp 22)], #[22, 23]⟩), 168, none⟩,
      ⟨some 20, (.move (.tmp 23)), 168, none⟩,
      ⟨some 24, (.extract (.tmp 20) 0), 167, none⟩,
      ⟨some 25, (.extract (.tmp 20) 1), 29, none⟩,
      ⟨some 10, (.alloc 167), 0, none⟩,
      ⟨none, (.store 167 (.tmp 10) (.tmp 24)), 0, none⟩,
      ⟨some 11, (.assign (.tmp 25)), 29, none⟩])
    (.seq (.seq (.reg [] [⟨some 26, (.move (.tmp 11)), 29, none⟩,
      ⟨some 27, (.binOp .neq 29 (.tmp 26) (.const (.int .i64 0)) 29), 4, none⟩])
    (.cond (.tmp 27)
    (.seq (.reg [] [⟨some 28, (.move (.tmp 11)), 29, none⟩,
      ⟨some 6, (.assign (.const (.int .i64 0))), 3, none⟩,
      ⟨some 7, (.assign (.const (.bool false))), 4, none⟩,
      ⟨some 8, (.assign (.tmp 28)), 29, none⟩])
    .ret)
    .skip))
    (.seq (.reg [] [⟨some 29, (.fieldAddr 167 (.tmp 10) 0), 0, none⟩,
      ⟨some 30, (.load 62 (.tmp 29)), 62, none⟩,
      ⟨some 31, (.move (.tmp 2)), 23, none⟩,
      ⟨some 32, (.call ⟨(.value (.func 178)), #[(.tmp 30), (.tmp 31)], #[62, 23]⟩), 3, none⟩,
      ⟨some 12, (.assign (.tmp 32)), 3, none⟩])
    (.seq (.seq (.reg [] [⟨some 33, (.move (.tmp 12)), 3, none⟩,
      ⟨some 34, (.binOp .lss 3 (.tmp 33) (.const (.int .i64 0)) 3), 4, none⟩,
      ⟨some 35, (.move (.tmp 34)), 4, none⟩,
      ⟨some 36, (.fieldAddr 167 (.tmp 10) 2), 0, some (35, false)⟩,
      ⟨some 37, (.load 23 (.tmp 36)), 23, some (35, false)⟩,
      ⟨some 38, (.move (.tmp 12)), 3, some (35, false)⟩,
      ⟨some 39, (.indexAddr 23 (.tmp 37) (.tmp 38)), 0, some (35, false)⟩,
      ⟨some 40, (.load 3 (.tmp 39)), 3, some (35, false)⟩,
      ⟨some 41, (.binOp .gtr 3 (.tmp 40) (.const (.int .i64 60)) 3), 4, some (35, false)⟩,
      ⟨some 42, (.pick (.tmp 35) (.const (.bool true)) (.tmp 41)), 4, none⟩])
    (.cond (.tmp 42)
    (.seq (.reg [] [⟨some 6, (.assign (.const (.int .i64 0))), 3, none⟩,
      ⟨some 7, (.assign (.const (.bool false))), 4, none⟩,
      ⟨some 8, (.assign (.const (.int .i64 0))), 29, none⟩])
    .ret)
    .skip))
    (.seq (.reg [] [⟨some 43, (.fieldAddr 167 (.tmp 10) 2), 0, none⟩,
      ⟨some 44, (.load 23 (.tmp 43)), 23, none⟩,
      ⟨some 45, (.move (.tmp 12)), 3, none⟩,
      ⟨some 46, (.indexAddr 23 (.tmp 44) (.tmp 45)), 0, none⟩,
      ⟨some 47, (.load 3 (.tmp 46)), 3, none⟩,
      ⟨some 6, (.assign (.tmp 47)), 3, none⟩,
      ⟨some 7, (.assign (.const (.bool true))), 4, none⟩,
      ⟨some 8, (.assign (.const (.int .i64 0))), 29, none⟩])
    .ret)))))))
theorem C99 {args : List AV} {r : AV} (hn : args.length ≤ 48) (h : vc Try.prog T [] A99 (Fin T [(.tmp 6), (.tmp 7), (.tmp 8)] r) ⟨envOf 0 args, []⟩) : CallP Try.prog 99 args r :=
  callP_of tok mixed Try.func99 (by kernel_rfl) (by kernel_rfl) (by kernel_rfl : Try.f99.ntmps = 48) (by kernel_rfl : Try.f99.body.bind (strip 48 (fun _ => [])) = some A99) hn h
def A104 : ACode :=
  (.seq (.reg [] [⟨some 4, (.assign (.const (.slice none 0 0))), 23, none⟩,
      ⟨some 5, (.assign (.const (.int .i64 0))), 29, none⟩])
    (.seq (.reg [] [⟨some 16, (.move (.tmp 0)), 22, none⟩,
      ⟨some 17, (.move (.tmp 1)), 23, none⟩,
      ⟨some 18, (.call ⟨(.value (.func 159)), #[(.tmp 16), (.tmp 17)], #[22, 23]⟩), 168, none⟩,
      ⟨some 15, (.move (.tmp 18)), 168, none⟩,
      ⟨some 19, (.extract (.tmp 15) 0), 167, none⟩,
      ⟨some 20, (.extract (.tmp 15) 1), 29, none⟩,
      ⟨some 6, (.alloc 167), 0, none⟩,
      ⟨none, (.store 167 (.tmp 6) (.tmp 19)), 0, none⟩,
      ⟨some 7, (.assign (.tmp 20)), 29, none⟩])
    (.seq (.seq (.reg [] [⟨some 21, (.move (.tmp 7)), 29, none⟩,
      ⟨some 22, (.binOp .neq 29 (.tmp 21) (.const (.int .i64 0)) 29), 4, none⟩])
    (.cond (.tmp 22)
    (.seq (.reg [] [⟨some 23, (.move (.tmp 7)), 29, none⟩,
      ⟨some 4, (.assign (.const (.slice none 0 0))), 23, none⟩,
      ⟨some 5, (.assign (.tmp 23)), 29, none⟩])
    .ret)
    .skip))
    (.seq (.reg [] [⟨some 24, (.move (.tmp 0)), 22, none⟩,
      ⟨some 25, (.call ⟨(.builtin .len), #[(.tmp 24)], #[22]⟩), 3, none⟩,
      ⟨some 26, (.makeSlice 180 (.tmp 25) (.tmp 25)), 180, none⟩,
      ⟨some 8, (.assign (.tmp 26)), 180, none⟩])
    (.seq (.seq (.reg [] [⟨some 9, (.assign (.const (.int .i64 0))), 3, none⟩])
    (.block 0 (.loop (.seq (.seq (.reg [] [⟨some 27, (.move (.tmp 9)), 3, none⟩,
      ⟨some 28, (.fieldAddr 167 (.tmp 6) 0), 0, none⟩,
      ⟨some 29, (.load 62 (.tmp 28)), 62, none⟩,
      ⟨some 30, (.call ⟨(.builtin .len), #[(.tmp 29)], #[62]⟩), 3, none⟩,
      ⟨some 31, (.binOp .lss 3 (.tmp 27) (.tmp 30) 3), 4, none⟩])
    (.cond (.tmp 31)
    .skip
    (.exit 0)))
    (.seq (.block 1 (.seq (.reg [] [⟨some 35, (.move (.tmp 0)), 22, none⟩,
      ⟨some 36, (.fieldAddr 167 (.tmp 6) 0), 0, none⟩,
      ⟨some 37, (.load 62 (.tmp 36)), 62, none⟩,
      ⟨some 38, (.move (.tmp 9)), 3, none⟩,
      ⟨some 39, (.indexAddr 62 (.tmp 37) (.tmp 38)), 0, none⟩,
      ⟨some 40, (.load 23 (.tmp 39)), 23, none⟩,
      ⟨some 41, (.call ⟨(.value (.func 164)), #[(.tmp 35), (.tmp 40)], #[22, 23]⟩), 173, none⟩,
      ⟨some 34, (.move (.tmp 41)), 173, none⟩,
      ⟨some 42, (.extract (.tmp 34) 0), 88, none⟩,
      ⟨some 43, (.extract (.tmp 34) 1), 62, none⟩,
      ⟨some 10, (.assign (.tmp 42)), 88, none⟩,
      ⟨some 11, (.assign (.tmp 43)), 62, none⟩])
    (.seq (.reg [] [⟨some 12, (.assign (.const (.int .i64 0))), 3, none⟩])
    (.block 2 (.loop (.seq (.seq (.reg [] [⟨some 44, (.move (.tmp 12)), 3, none⟩,
      ⟨some 45, (.move (.tmp 10)), 88, none⟩,
      ⟨some 46, (.call ⟨(.builtin .len), #[(.tmp 45)], #[88]⟩), 3, none⟩,
      ⟨some 47, (.binOp .lss 3 (.tmp 44) (.tmp 46) 3), 4, none⟩])
    (.cond (.tmp 47)
    .skip
    (.exit 2)))
    (.seq (.block 3 (.reg [] [⟨some 50, (.move (.tmp 8)), 180, none⟩,
      ⟨some 51, (.move (.tmp 10)), 88, none⟩,
      ⟨some 52, (.move (.tmp 12)), 3, none⟩,
      ⟨some 53, (.indexAddr 88 (.tmp 51) (.tmp 52)), 0, none⟩,
      ⟨some 54, (.fieldAddr 46 (.tmp 53) 0), 0, none⟩,
      ⟨some 55, (.load 3 (.tmp 54)), 3, none⟩,
      ⟨some 56, (.indexAddr 180 (.tmp 50) (.tmp 55)), 0, none⟩,
      ⟨none, (.store 4 (.tmp 56) (.const (.bool true))), 0, none⟩]))
    (.reg [] [⟨some 48, (.move (.tmp 12)), 3, none⟩,
      ⟨some 49, (.binOp .add 3 (.tmp 48) (.const (.int .i64 1)) 3), 3, none⟩,
      ⟨some 12, (.assign (.tmp 49)), 3, none⟩]))))))))
    (.reg [] [⟨some 32, (.move (.tmp 9)), 3, none⟩,
      ⟨some 33, (.binOp .add 3 (.tmp 32) (.const (.int .i64 1)) 3), 3, none⟩,
      ⟨some 9, (.assign (.tmp 33)), 3, none⟩]))))))
    (.seq (.reg [] [⟨some 13, (.assign (.const (.slice none 0 0))), 23, none⟩])
    (.seq (.seq (.reg [] [⟨some 14, (.assign (.const (.int .i64 0))), 3, none⟩])
    (.block 4 (.loop (.seq (.seq (.reg [] [⟨some 57, (.move (.tmp 14)), 3, none⟩,
      ⟨some 58, (.move (.tmp 0)), 22, none⟩,
      ⟨some 59, (.call ⟨(.builtin .len), #[(.tmp 58)], #[22]⟩), 3, none⟩,
      ⟨some 60, (.binOp .lss 3 (.tmp 57) (.tmp 59) 3), 4, none⟩])
    (.cond (.tmp 60)
    .skip
    (.exit 4)))
    (.seq (.block 5 (.seq (.reg [] [⟨some 63, (.move (.tmp 8)), 180, none⟩,
      ⟨some 64, (.move (.tmp 14)), 3, none⟩,
      ⟨some 65, (.indexAddr 180 (.tmp 63) (.tmp 64)), 0, none⟩,
      ⟨some 66, (.load 4 (.tmp 65)), 4, none⟩,
      ⟨some 67, (.unOp .not 4 (.tmp 66)), 4, none⟩])
    (.cond (.tmp 67)
    (.reg [] [⟨some 68, (.move (.tmp 13)), 23, none⟩,
      ⟨some 69, (.move (.tmp 14)), 3, none⟩,
      ⟨some 70, (.buildSlice 23 1 #[(0, (.tmp 69))]), 23, none⟩,
      ⟨some 71, (.call ⟨(.builtin .append), #[(.tmp 68), (.tmp 70)], #[23, 23]⟩), 23, none⟩,
      ⟨some 13, (.assign (.tmp 71)), 23, none⟩])
    .skip)))
    (.reg [] [⟨some 61, (.move (.tmp 14)), 3, none⟩,
      ⟨some 62, (.binOp .add 3 (.tmp 61) (.const (.int .i64 1)) 3), 3, none⟩,
      ⟨some 14, (.assign (.tmp 62)), 3, none⟩]))))))
    (.seq (.reg [] [⟨some 72, (.move (.tmp 13)), 23, none⟩,
      ⟨some 4, (.assign (.tmp 72)), 23, none⟩,
      ⟨some 5, (.assign (.const (.int .i64 0))), 29, none⟩])
    .ret))))))))
theorem C104 {args : List AV} {r : AV} (hn : args.length ≤ 73) (h : vc Try.prog T [] A104 (Fin T [(.tmp 4), (.tmp 5)] r) ⟨envOf 0 args, []⟩) : CallP Try.prog 104 args r :=
  callP_of tok mixed Try.func104 (by kernel_rfl) (by kernel_rfl) (by kernel_rfl : Try.f104.ntmps = 73) (by kernel_rfl : Try.f104.body.bind (strip 73 (fun _ => [])) = some A104) hn h

end Go.Proofs.Ytaooenmkofjafaa
end

section
/- Functions of the cut as the value layer reads them. (written by gen.py) -/
set_option maxRecDepth 20000
namespace Go.Proofs.Ytaooenmkofjafaa
open Go.Abs Go

def A62 : ACode :=
  (.seq (.reg [] [⟨some 1, (.box 72 (.tmp 0)), 0, none⟩,
      ⟨some 2, (.assign (.const (.bool false))), 4, none⟩])
    (.seq (.reg [] [⟨some 3, (.fieldAddr 72 (.tmp 1) 1), 0, none⟩,
      ⟨some 4, (.load 23 (.tmp 3)), 23, none⟩,
      ⟨some 5, (.call ⟨(.value (.func 146)), #[(.tmp 4)], #[23]⟩), 4, none⟩,
      ⟨some 6, (.move (.tmp 5)), 4, none⟩,
      ⟨some 7, (.fieldAddr 72 (.tmp 1) 2), 0, some (6, false)⟩,
      ⟨some 8, (.load 23 (.tmp 7)), 23, some (6, false)⟩,
      ⟨some 9, (.call ⟨(.value (.func 146)), #[(.tmp 8)], #[23]⟩), 4, some (6, false)⟩,
      ⟨some 10, (.pick (.tmp 6) (.const (.bool true)) (.tmp 9)), 4, none⟩,
      ⟨some 11, (.move (.tmp 10)), 4, none⟩,
      ⟨some 12, (.fieldAddr 72 (.tmp 1) 3), 0, some (11, false)⟩,
      ⟨some 13, (.load 23 (.tmp 12)), 23, some (11, false)⟩,
      ⟨some 14, (.call ⟨(.value (.func 146)), #[(.tmp 13)], #[23]⟩), 4, some (11, false)⟩,
      ⟨some 15, (.pick (.tmp 11) (.const (.bool true)) (.tmp 14)), 4, none⟩,
      ⟨some 2, (.assign (.tmp 15)), 4, none⟩])
    .ret))
theorem C62 {args : List AV} {r : AV} (hn : args.length ≤ 16) (h : vc Try.prog T [] A62 (Fin T [(.tmp 2)] r) ⟨envOf 0 args, []⟩) : CallP Try.prog 62 args r :=
  callP_of tok mixed Try.func62 (by kernel_rfl) (by kernel_rfl) (by kernel_rfl : Try.f62.ntmps = 16) (by kernel_rfl : Try.f62.body.bind (strip 16 (fun _ => [])) = some A62) hn h
def A146 : ACode :=
  (.seq (.reg [] [⟨some 2, (.assign (.const (.bool false))), 4, none⟩])
    (.seq (.reg [] [⟨some 3, (.move (.tmp 0)), 23, none⟩,
      ⟨some 4, (.call ⟨(.builtin .len), #[(.tmp 3)], #[23]⟩), 3, none⟩,
      ⟨some 5, (.binOp .gtr 3 (.tmp 4) (.const (.int .i64 100)) 3), 4, none⟩,
      ⟨some 2, (.assign (.tmp 5)), 4, none⟩])
    .ret))
theorem C146 {args : List AV} {r : AV} (hn : args.length ≤ 6) (h : vc Try.prog T [] A146 (Fin T [(.tmp 2)] r) ⟨envOf 0 args, []⟩) : CallP Try.prog 146 args r :=
  callP_of tok mixed Try.func146 (by kernel_rfl) (by kernel_rfl) (by kernel_rfl : Try.f146.ntmps = 6) (by kernel_rfl : Try.f146.body.bind (strip 6 (fun _ => [])) = some A146) hn h
def A172 : ACode :=
  (.seq (.reg [] [⟨some 4, (.move (.tmp 0)), 88, none⟩,
      ⟨some 5, (.call ⟨(.builtin .len), #[(.tmp 4)], #[88]⟩), 3, none⟩,
      ⟨some 6, (.binOp .sub 3 (.tmp 5) (.const (.int .i64 1)) 3), 3, none⟩,
      ⟨some 2, (.assign (.const (.int .i64 0))), 3, none⟩,
      ⟨some 3, (.assign (.tmp 6)), 3, none⟩])
    (.block 0 (.loop (.seq (.seq (.reg [] [⟨some 7, (.move (.tmp 2)), 3, none⟩,
      ⟨some 8, (.move (.tmp 3)), 3, none⟩,
      ⟨some 9, (.binOp .lss 3 (.tmp 7) (.tmp 8) 3), 4, none⟩])
    (.cond (.tmp 9)
    .skip
    (.exit 0)))
    (.seq (.block 1 (.draw [] [⟨some 14, (.move (.tmp 0)), 88, none⟩,
      ⟨some 15, (.move (.tmp 2)), 3, none⟩,
      ⟨some 16, (.move (.tmp 0)), 88, none⟩,
      ⟨some 17, (.move (.tmp 3)), 3, none⟩,
      ⟨some 18, (.move (.tmp 0)), 88, none⟩,
      ⟨some 19, (.move (.tmp 3)), 3, none⟩,
      ⟨some 20, (.indexAddr 88 (.tmp 18) (.tmp 19)), 0, none⟩,
      ⟨some 21, (.load 46 (.tmp 20)), 46, none⟩,
      ⟨some 22, (.move (.tmp 0)), 88, none⟩,
      ⟨some 23, (.move (.tmp 2)), 3, none⟩,
      ⟨some 24, (.indexAddr 88 (.tmp 22) (.tmp 23)), 0, none⟩,
      ⟨some 25, (.load 46 (.tmp 24)), 46, none⟩,
      ⟨some 26, (.indexAddr 88 (.tmp 14) (.tmp 15)), 0, none⟩,
      ⟨none, (.store 46 (.tmp 26) (.tmp 21)), 0, none⟩,
      ⟨some 27, (.indexAddr 88 (.tmp 16) (.tmp 17)), 0, none⟩,
      ⟨none, (.store 46 (.tmp 27) (.tmp 25)), 0, none⟩] [(0, 1), (0, 2), (1, 2), (0, 3), (1, 3), (2, 3), (0, 4), (1, 4), (2, 4), (3, 4), (0, 5), (1, 5), (2, 5), (3, 5), (4, 5), (0, 6), (1, 6), (2, 6), (3, 6), (0, 7), (1, 7), (2, 7), (3, 7), (0, 8), (1, 8), (2, 8), (3, 8), (4, 8), (5, 8), (6, 8), (7, 8), (0, 9), (1, 9), (2, 9), (3, 9), (4, 9), (5, 9), (6, 9), (7, 9), (8, 9), (0, 10), (1, 10), (2, 10), (3, 10), (4, 10), (5, 10), (6, 10), (7, 10), (0, 11), (1, 11), (2, 11), (3, 11), (4, 11), (5, 11), (6, 11), (7, 11), (2, 12), (3, 12), (2, 13), (3, 13)]))
    (.reg [] [⟨some 10, (.move (.tmp 2)), 3, none⟩,
      ⟨some 11, (.binOp .add 3 (.tmp 10) (.const (.int .i64 1)) 3), 3, none⟩,
      ⟨some 12, (.move (.tmp 3)), 3, none⟩,
      ⟨some 13, (.binOp .sub 3 (.tmp 12) (.const (.int .i64 1)) 3), 3, none⟩,
      ⟨some 2, (.assign (.tmp 11)), 3, none⟩,
      ⟨some 3, (.assign (.tmp 13)), 3, none⟩]))))))
theorem CL172 {pre suf : List AV} {sz : Nat} {els els' : List AV} {r : LRet} (hn : (pre ++ .sl lid 0 0 els.length :: suf).length ≤ 28) (h : vc Try.prog T [] A172 (FinL T [] sz r els') ⟨envOf 0 (pre ++ .sl lid 0 0 els.length :: suf), [(lid, some ⟨sz, els, 0, false⟩)]⟩) : CallL Try.prog 172 pre sz els suf r els' :=
  callL_of tok mixed Try.func172 (by kernel_rfl) (by kernel_rfl) (by kernel_rfl : Try.f172.ntmps = 28) (by kernel_rfl : Try.f172.body.bind (strip 28 (fun _ => [])) = some A172) hn h
def A176 : ACode :=
  (.seq (.reg [] [⟨some 6, (.assign (.const (.bool false))), 4, none⟩])
    (.seq (.reg [] [⟨some 7, (.move (.tmp 0)), 3, none⟩,
      ⟨some 8, (.move (.tmp 1)), 3, none⟩,
      ⟨some 9, (.binOp .geq 3 (.tmp 7) (.tmp 8) 3), 4, none⟩,
      ⟨some 10, (.move (.tmp 9)), 4, none⟩,
      ⟨some 11, (.move (.tmp 0)), 3, some (10, true)⟩,
      ⟨some 12, (.move (.tmp 2)), 3, some (10, true)⟩,
      ⟨some 13, (.binOp .leq 3 (.tmp 11) (.tmp 12) 3), 4, some (10, true)⟩,
      ⟨some 14, (.pick (.tmp 10) (.tmp 13) (.const (.bool false))), 4, none⟩,
      ⟨some 6, (.assign (.tmp 14)), 4, none⟩])
    .ret))
theorem C176 {args : List AV} {r : AV} (hn : args.length ≤ 15) (h : vc Try.prog T [] A176 (Fin T [(.tmp 6)] r) ⟨envOf 0 args, []⟩) : CallP Try.prog 176 args r :=
  callP_of tok mixed Try.func176 (by kernel_rfl) (by kernel_rfl) (by kernel_rfl : Try.f176.ntmps = 15) (by kernel_rfl : Try.f176.body.bind (strip 15 (fun _ => [])) = some A176) hn h

end Go.Proofs.Ytaooenmkofjafaa
end

section
/- Contracts: the statement FeedSteps. -/
namespace Go.Proofs.Ytaooenmkofjafaa
open Go.Abs Go
set_option maxRecDepth 20000
set_option maxHeartbeats 2000000
attribute [local irreducible] PreK CondK CallK CallG CallX LoopK
attribute [local simp] avsEq avEq akind teq vkind vEq

theorem rIsEnd_c (s : List Rule) (w : List Int) (h : Sys.small s) (hw : w.length ≤ 1000) : CallP Try.prog 82 [rulesV s, ints w] (.tup [bv (IsEndR s w).1, iv (IsEndR s w).2]) := by
  refine C82 (by simp) ?_
  have hst := rSteps_c s w h hw
  simp [A82]
  try simp 
  repeat' (first
    | (refine CallX.pure (hst) (by simp) (by simp) ?_; try simp )
    | (refine CallK.intro (hst) (by simp) (by simp) ?_; try simp )
    | (refine CallG.intro (fun _ => hst) (by simp) (by simp) ?_; try simp )
    | ((with_reducible refine PreK.intro ?_ ?_); (next => (first | omega | (intros; first | omega | (refine ⟨by omega, ?_⟩; repeat (first | assumption | constructor)) | assumption))); intro _; try simp )
    | fail)
  by_cases h1 : swErr s w = 0
  · simp [IsEndR, h1, stepsM]
  · simp [IsEndR, h1]
theorem sameSteps_c (a b : List Step) (ha : a.length ≤ big) : CallP Try.prog 85 [stepsV a, stepsV b] (bv (decide (a = b))) := by
  refine C85 (by simp) ?_
  generalize hR : decide (a = b) = R
  simp only [big] at ha
  simp [A85]
  refine CondK.intro (fun h => ?_) (fun h => ?_)
  · simp at h
    have : a ≠ b := fun e => h (by rw [e])
    simp [this] at hR
    simp [hR]
  · simp at h
    try simp 
    refine LoopK.by (fun i : Nat => ⟨[(5, iv i), (0, stepsV a), (1, stepsV b)], []⟩) (fun i => a.length - i) (fun i => i ≤ a.length ∧ decide (a.drop i = b.drop i) = R) 0 (by simpa using hR) (by simp) ?_
    intro i Q' ⟨hi, hc⟩ hq he hr
    try simp 
    refine CondK.intro (fun h2 => ?_) (fun h2 => ?_)
    · simp at h2
      have h2b : i < b.length := by omega
      rw [drop_cons a i h2, drop_cons b i h2b] at hc
      have hcond : (decide ((el a i).rule = (el b i).rule) && decide ((el a i).place = (el b i).place)) = decide (el a i = el b i) := by
        rw [Bool.eq_iff_iff]; simp [step_eq]
      repeat (refine PreK.intro (by first | omega | (intros; first | omega | (refine ⟨by omega, ?_⟩; simp_all; done) | (simp_all; done) | (simp_all; omega))) fun _ => ?_; (try simp [h2, h2b]))
      refine CondK.intro (fun h3 => ?_) (fun h3 => ?_)
      · have hne : ¬ el a i = el b i := by
          intro e
          simp [e] at h3
        simp [hne] at hc
        try simp 
        apply hr
        simp [hc]
      · have heq : el a i = el b i := by
          simp at h3
          rw [step_eq]
          simpa using h3
        simp [heq] at hc
        repeat (refine PreK.intro (by first | omega | (intros; first | omega | (refine ⟨by omega, ?_⟩; simp_all; done) | (simp_all; done) | (simp_all; omega))) fun _ => ?_; (try simp ))
        exact hq (i + 1) _ ⟨by omega, by simpa using hc⟩ (by omega) (by simp)
    · simp at h2
      rw [List.drop_eq_nil_of_le (by omega), List.drop_eq_nil_of_le (by omega)] at hc
      simp at hc
      try simp 
      apply he
      simp [hc]
end Go.Proofs.Ytaooenmkofjafaa
end

section
/- Contracts: the statement FeedSteps as a contract. -/
namespace Go.Proofs.Ytaooenmkofjafaa
open Go.Abs Go
set_option maxRecDepth 20000
set_option maxHeartbeats 2000000
attribute [local irreducible] PreK CondK CallK CallG CallX LoopK
attribute [local simp] avsEq avEq akind teq vkind vEq

theorem large2_c (l : List Int) : CallP Try.prog 146 [ints l] (bv (decide (100 < l.length))) := by
  refine C146 (by simp) ?_
  simp [A146]
  omega
theorem large3_c (l : List Int) : CallP Try.prog 72 [ints l] (bv (decide (100 < l.length))) := by
  refine C72 (by simp) ?_
  simp [A72]
  omega
def longT (r : Rule) : Bool := decide (100 < r.to.length) || (decide (100 < r.left.length) || decide (100 < r.right.length))
theorem long2_c (r : Rule) : CallP Try.prog 62 [ruleV r] (bv (longT r)) := by
  refine C62 (by simp) ?_
  simp [A62]
  try simp 
  repeat' (first
    | (refine CallX.pure (large2_c r.to) (by simp) (by simp) ?_; try simp )
    | (refine CallK.intro (large2_c r.to) (by simp) (by simp) ?_; try simp )
    | (refine CallG.intro (fun _ => large2_c r.to) (by simp) (by simp) ?_; try simp )
    | (refine CallX.pure (large2_c r.left) (by simp) (by simp) ?_; try simp )
    | (refine CallK.intro (large2_c r.left) (by simp) (by simp) ?_; try simp )
    | (refine CallG.intro (fun _ => large2_c r.left) (by simp) (by simp) ?_; try simp )
    | (refine CallX.pure (large2_c r.right) (by simp) (by simp) ?_; try simp )
    | (refine CallK.intro (large2_c r.right) (by simp) (by simp) ?_; try simp )
    | (refine CallG.intro (fun _ => large2_c r.right) (by simp) (by simp) ?_; try simp )
    | ((with_reducible refine PreK.intro ?_ ?_); (next => (first | omega | (intros; first | omega | (refine ⟨by omega, ?_⟩; repeat (first | assumption | constructor)) | assumption))); intro _; try simp )
    | fail)
  simp [longT, Bool.or_assoc]
def longS (s : List Rule) : Bool := decide (50 < s.length) || s.any longT
theorem long3_c (s : List Rule) (h : s.length ≤ big) : CallP Try.prog 71 [rulesV s] (bv (longS s)) := by
  refine C71 (by simp) ?_
  generalize hR : longS s = R
  unfold longS at hR
  simp only [big] at h
  simp [A71]
  refine CondK.intro (fun h1 => ?_) (fun h1 => ?_)
  · simp at h1
    simp [show 50 < s.length by omega] at hR
    simp [← hR]
  · simp at h1
    simp only [show ¬ 50 < s.length by omega, decide_false, Bool.false_or] at hR
    try simp 
    refine LoopK.by (fun i : Nat => ⟨[(3, iv i), (0, rulesV s)], []⟩) (fun i => s.length - i) (fun i => i ≤ s.length ∧ (s.drop i).any longT = R) 0 (by simpa using hR) (by simp) ?_
    intro i Q' ⟨hi, hc⟩ hq he hr
    try simp 
    refine CondK.intro (fun h2 => ?_) (fun h2 => ?_)
    · simp at h2
      rw [drop_cons s i h2, List.any_cons] at hc
      try simp [h2]
      repeat' (first
        | (refine CallX.pure (long2_c (el s i)) (by simp) (by simp) ?_; try simp [h2])
        | (refine CallK.intro (long2_c (el s i)) (by simp) (by simp) ?_; try simp [h2])
        | (refine CallG.intro (fun _ => long2_c (el s i)) (by simp) (by simp) ?_; try simp [h2])
        | ((with_reducible refine PreK.intro ?_ ?_); (next => (first | omega | (intros; first | omega | (refine ⟨by omega, ?_⟩; repeat (first | assumption | constructor)) | assumption))); intro _; try simp [h2])
        | fail)
      refine CondK.intro (fun h3 => ?_) (fun h3 => ?_)
      · rw [h3] at hc
        try simp 
        apply hr
        simp [← hc]
      · rw [h3] at hc
        try simp 
        repeat' (first
          | ((with_reducible refine PreK.intro ?_ ?_); (next => (first | omega | (intros; first | omega | (refine ⟨by omega, ?_⟩; repeat (first | assumption | constructor)) | assumption))); intro _; try simp )
          | fail)
        exact hq (i + 1) _ ⟨by omega, by simpa using hc⟩ (by omega) (by simp)
    · simp at h2
      rw [List.drop_eq_nil_of_le (by omega)] at hc
      try simp 
      apply he
      simp [← hc]
theorem longS_small {s : List Rule} (h : longS s = false) : Sys.small s := by
  unfold longS at h
  simp only [Bool.or_eq_false_iff, decide_eq_false_iff_not, List.any_eq_false] at h
  refine ⟨by omega, fun r hr => ?_⟩
  have := h.2 r hr
  unfold longT at this
  simp only [Bool.or_eq_true, decide_eq_true_eq, not_or] at this
  exact ⟨by omega, by omega, by omega⟩
theorem lawFeedSteps_c (s : List Rule) (w : List Int) (hb : s.length ≤ big) (hwb : w.length ≤ big) : CallP Try.prog 17 [rulesV s, ints w] (bv true) := by
  refine C17 (by simp) ?_
  simp [A17]
  refine CallX.pure (by simpa using long3_c s hb) (by simp) (by simp) ?_
  try simp 
  cases hl : longS s
  · have hs := longS_small hl
    by_cases h2 : 100 < w.length
    · try simp 
      repeat' (first
        | (refine CallX.pure (large3_c w) (by simp) (by simp) ?_; try simp )
        | (refine CallK.intro (large3_c w) (by simp) (by simp) ?_; try simp )
        | (refine CallG.intro (fun _ => large3_c w) (by simp) (by simp) ?_; try simp )
        | ((with_reducible refine PreK.intro ?_ ?_); (next => (first | omega | (intros; first | omega | (refine ⟨by omega, ?_⟩; repeat (first | assumption | constructor)) | assumption))); intro _; try simp )
        | fail)
      refine CondK.intro (fun h3 => ?_) (fun h3 => ?_)
      · try simp 
        repeat' (first
          | (refine CallX.pure (known_c) (by simp) (by simp) ?_; try simp )
          | (refine CallK.intro (known_c) (by simp) (by simp) ?_; try simp )
          | (refine CallG.intro (fun _ => known_c) (by simp) (by simp) ?_; try simp )
          | ((with_reducible refine PreK.intro ?_ ?_); (next => (first | omega | (intros; first | omega | (refine ⟨by omega, ?_⟩; repeat (first | assumption | constructor)) | assumption))); intro _; try simp )
          | fail)
      · simp at h3; omega
    · try simp 
      repeat' (first
        | (refine CallX.pure (large3_c w) (by simp) (by simp) ?_; try simp )
        | (refine CallK.intro (large3_c w) (by simp) (by simp) ?_; try simp )
        | (refine CallG.intro (fun _ => large3_c w) (by simp) (by simp) ?_; try simp )
        | ((with_reducible refine PreK.intro ?_ ?_); (next => (first | omega | (intros; first | omega | (refine ⟨by omega, ?_⟩; repeat (first | assumption | constructor)) | assumption))); intro _; try simp )
        | fail)
      refine CondK.intro (fun h3 => ?_) (fun h3 => ?_)
      · simp at h3; omega
      · have hw : w.length ≤ 1000 := by omega
        have hlen : (stepsM s w).length ≤ 54 := by
          unfold stepsM
          split
          · simp
          · rename_i hne
            simp only [ne_eq, Decidable.not_not] at hne
            rw [List.length_map]
            exact movesM_len (swErr_zero hne).1 (swErr_zero hne).2
        have hE : (IsEndR s w).2 = swErr s w ∧ (swErr s w = 0 → (IsEndR s w).1 = decide ((stepsM s w).length = 0)) := by
          unfold IsEndR stepsM
          by_cases h0 : swErr s w = 0
          · simp [h0]
          · simp [h0]
        have h4 := Steps_c s w hs hw
        have h5 := rSteps_c s w hs hw
        have h6 := IsEnd_c s w hs hw
        have h7 := rIsEnd_c s w hs hw
        have h8 := sameSteps_c (stepsM s w) (stepsM s w) (big_of (by omega))
        generalize stepsM s w = S at h4 h5 h8 hlen hE
        generalize IsEndR s w = E at h6 h7 hE
        obtain ⟨E1, E2⟩ := E
        dsimp only at h6 h7 hE
        obtain ⟨rfl, hE2⟩ := hE
        try simp 
        repeat' (first
          | (refine CallX.pure (h4) (by simp) (by simp) ?_; try simp )
          | (refine CallK.intro (h4) (by simp) (by simp) ?_; try simp )
          | (refine CallG.intro (fun _ => h4) (by simp) (by simp) ?_; try simp )
          | (refine CallX.pure (h5) (by simp) (by simp) ?_; try simp )
          | (refine CallK.intro (h5) (by simp) (by simp) ?_; try simp )
          | (refine CallG.intro (fun _ => h5) (by simp) (by simp) ?_; try simp )
          | (refine CallX.pure (h6) (by simp) (by simp) ?_; try simp )
          | (refine CallK.intro (h6) (by simp) (by simp) ?_; try simp )
          | (refine CallG.intro (fun _ => h6) (by simp) (by simp) ?_; try simp )
          | (refine CallX.pure (h7) (by simp) (by simp) ?_; try simp )
          | (refine CallK.intro (h7) (by simp) (by simp) ?_; try simp )
          | (refine CallG.intro (fun _ => h7) (by simp) (by simp) ?_; try simp )
          | (refine CallX.pure (Validate_c s hs) (by simp) (by simp) ?_; try simp )
          | (refine CallK.intro (Validate_c s hs) (by simp) (by simp) ?_; try simp )
          | (refine CallG.intro (fun _ => Validate_c s hs) (by simp) (by simp) ?_; try simp )
          | (refine CallX.pure (rsValidate_c s hs) (by simp) (by simp) ?_; try simp )
          | (refine CallK.intro (rsValidate_c s hs) (by simp) (by simp) ?_; try simp )
          | (refine CallG.intro (fun _ => rsValidate_c s hs) (by simp) (by simp) ?_; try simp )
          | (refine CallX.pure (h8) (by simp) (by simp) ?_; try simp )
          | (refine CallK.intro (h8) (by simp) (by simp) ?_; try simp )
          | (refine CallG.intro (fun _ => h8) (by simp) (by simp) ?_; try simp )
          | (refine CallX.pure (known_c) (by simp) (by simp) ?_; try simp )
          | (refine CallK.intro (known_c) (by simp) (by simp) ?_; try simp )
          | (refine CallG.intro (fun _ => known_c) (by simp) (by simp) ?_; try simp )
          | ((with_reducible refine PreK.intro ?_ ?_); (next => (first | omega | (intros; first | omega | (refine ⟨by omega, ?_⟩; repeat (first | assumption | constructor)) | assumption))); intro _; try simp )
          | fail)
        by_cases h0 : swErr s w = 0
        · right
          have := hE2 h0
          simpa using this
        · exact .inl h0
  · try simp 
    repeat' (first
      | ((with_reducible refine PreK.intro ?_ ?_); (next => (first | omega | (intros; first | omega | (refine ⟨by omega, ?_⟩; repeat (first | assumption | constructor)) | assumption))); intro _; try simp )
      | fail)
    refine CallG.intro (r := bv true) (fun hh => by cases hh) (by simp) (by simp) ?_
    try simp 
    refine CondK.intro (fun h3 => ?_) (fun h3 => ?_)
    · try simp 
      repeat' (first
        | (refine CallX.pure (known_c) (by simp) (by simp) ?_; try simp )
        | (refine CallK.intro (known_c) (by simp) (by simp) ?_; try simp )
        | (refine CallG.intro (fun _ => known_c) (by simp) (by simp) ?_; try simp )
        | ((with_reducible refine PreK.intro ?_ ?_); (next => (first | omega | (intros; first | omega | (refine ⟨by omega, ?_⟩; repeat (first | assumption | constructor)) | assumption))); intro _; try simp )
        | fail)
    · simp at h3
end Go.Proofs.Ytaooenmkofjafaa
end

section
/- Plain: words put in order one by one, and sorted all at once, are the same. -/
namespace Go.Proofs.Ytaooenmkofjafaa
open Go.Abs Go

/-- A word put in its place; left out if it is there. -/
def insM (x : Word) : List Word → List Word
  | [] => [x]
  | y :: l => if bef y x then y :: insM x l else if y = x then y :: l else x :: y :: l
theorem mem_insM {x z : Word} : ∀ {l : List Word}, z ∈ insM x l ↔ z = x ∨ z ∈ l
  | [] => by simp [insM]
  | y :: l => by
    rw [insM]
    split
    · simp only [List.mem_cons, mem_insM (l := l)]
      constructor
      · rintro (h | h | h)
        · exact .inr (.inl h)
        · exact .inl h
        · exact .inr (.inr h)
      · rintro (h | h | h)
        · exact .inr (.inl h)
        · exact .inl h
        · exact .inr (.inr h)
    · split
      · rename_i h
        subst h
        simp
      · simp
theorem insM_sorted {x : Word} : ∀ {l : List Word}, sortedW l → sortedW (insM x l)
  | [], _ => by simp [insM, sortedW]
  | y :: l, h => by
    have h0 := h
    unfold sortedW at h
    rw [List.pairwise_cons] at h
    rw [insM]
    split
    · rename_i hb
      unfold sortedW
      rw [List.pairwise_cons]
      refine ⟨fun z hz => ?_, insM_sorted h.2⟩
      rcases mem_insM.1 hz with rfl | hz
      · exact hb
      · exact h.1 z hz
    · rename_i hb
      split
      · exact h0
      · rename_i hne
        have hxy : bef x y = true := by
          rcases bef_total hne with e | e
          · exact absurd e hb
          · exact e
        unfold sortedW
        rw [List.pairwise_cons]
        refine ⟨fun z hz => ?_, h0⟩
        rcases List.mem_cons.1 hz with rfl | hz
        · exact hxy
        · exact bef_trans hxy (h.1 z hz)
theorem insM_len (x : Word) : ∀ l : List Word, (insM x l).length ≤ l.length + 1
  | [] => by simp [insM]
  | y :: l => by
    rw [insM]
    split
    · have := insM_len x l; simp; omega
    · split <;> simp
def insA : List Word → List Word → List Word
  | acc, [] => acc
  | acc, x :: l => insA (insM x acc) l
theorem insA_spec : ∀ (l acc : List Word), sortedW acc → sortedW (insA acc l) ∧ ∀ z, z ∈ insA acc l ↔ z ∈ acc ∨ z ∈ l
  | [], acc, h => ⟨h, fun z => by simp [insA]⟩
  | x :: l, acc, h => by
    obtain ⟨h1, h2⟩ := insA_spec l (insM x acc) (insM_sorted h)
    refine ⟨h1, fun z => ?_⟩
    rw [insA, h2, mem_insM, List.mem_cons]
    constructor
    · rintro ((h | h) | h)
      · exact .inr (.inl h)
      · exact .inl h
      · exact .inr (.inr h)
    · rintro (h | h | h)
      · exact .inl (.inr h)
      · exact .inl (.inl h)
      · exact .inr h
theorem insA_len : ∀ (l acc : List Word), (insA acc l).length ≤ acc.length + l.length
  | [], acc => by simp [insA]
  | x :: l, acc => by
    have := insA_len l (insM x acc)
    have := insM_len x acc
    rw [insA]; simp; omega
theorem compF_spec : ∀ (p : Word) (l : List Word), inOrder (p :: l) → sortedW (p :: compF p l) ∧ ∀ z, z ∈ p :: compF p l ↔ z ∈ p :: l
  | p, [], _ => by simp [compF, sortedW]
  | p, y :: l, h => by
    unfold inOrder at h
    rw [List.pairwise_cons] at h
    rw [compF]
    split
    · rename_i e
      subst e
      obtain ⟨h1, h2⟩ := compF_spec y l h.2
      exact ⟨h1, fun z => by rw [h2]; simp⟩
    · rename_i e
      obtain ⟨h1, h2⟩ := compF_spec y l h.2
      have hpy : bef p y = true := by
        rcases bef_total e with k | k
        · rw [h.1 y (by simp)] at k; cases k
        · exact k
      refine ⟨?_, fun z => ?_⟩
      · have h3 := h1
        unfold sortedW at h1 ⊢
        rw [List.pairwise_cons] at h1 ⊢
        refine ⟨fun z hz => ?_, h3⟩
        rcases List.mem_cons.1 hz with rfl | hz
        · exact hpy
        · exact bef_trans hpy (h1.1 z hz)
      · rw [List.mem_cons, h2, ← List.mem_cons]
theorem uniq_sorted (l : List Word) : sortedW (uniq l) ∧ ∀ z, z ∈ uniq l ↔ z ∈ l := by
  unfold uniq
  have ho := sortW_order l
  have hm : ∀ z, z ∈ sortW l ↔ z ∈ l := fun z => (sortW_perm l).mem_iff
  generalize sortW l = m at ho hm
  cases m with
  | nil => exact ⟨List.Pairwise.nil, fun z => by rw [← hm]; simp [compW]⟩
  | cons x m =>
    obtain ⟨h1, h2⟩ := compF_spec x m ho
    exact ⟨h1, fun z => by rw [← hm]; exact h2 z⟩
theorem uniq_insA {l m : List Word} (h : ∀ z, z ∈ l ↔ z ∈ m) : uniq l = insA [] m := by
  obtain ⟨h1, h2⟩ := uniq_sorted l
  obtain ⟨h3, h4⟩ := insA_spec m [] List.Pairwise.nil
  exact sorted_eq h1 h3 fun z => by rw [h2, h4]; simp [h]
end Go.Proofs.Ytaooenmkofjafaa
end

section
/- Contracts: words put in their places; the reference's next words; parts of lists; the statement FeedNexts. -/
namespace Go.Proofs.Ytaooenmkofjafaa
open Go.Abs Go
set_option maxRecDepth 20000
set_option maxHeartbeats 2000000
attribute [local irreducible] PreK CondK CallK CallG CallX LoopK
attribute [local simp] avsEq avEq akind teq vkind vEq

theorem before1_c (a b : List Int) (ha : a.length ≤ 1000) : CallP Try.prog 212 [ints a, ints b] (bv (bef a b)) := by
  refine C212 (by simp) ?_
  generalize hR : bef a b = R
  simp [A212]
  refine LoopK.by (fun i : Nat => ⟨[(5, iv i), (0, ints a), (1, ints b)], []⟩) (fun i => a.length - i) (fun i => i ≤ a.length ∧ i ≤ b.length ∧ bef (a.drop i) (b.drop i) = R) 0 (by simpa using hR) (by simp) ?_
  intro i Q' ⟨hi, hj, hc⟩ hq he hr
  by_cases h1 : i < a.length
  · by_cases h2 : i < b.length
    · rw [drop_cons a i h1, drop_cons b i h2, bef] at hc
      try simp [h1, h2]
      repeat' (first
        | ((with_reducible refine PreK.intro ?_ ?_); (next => (first | omega | (intros; first | omega | (refine ⟨by omega, ?_⟩; repeat (first | assumption | constructor)) | assumption))); intro _; try simp [h1, h2])
        | fail)
      refine CondK.intro (fun h3 => ?_) (fun h3 => ?_)
      · try simp [h1, h2]
        repeat' (first
          | ((with_reducible refine PreK.intro ?_ ?_); (next => (first | omega | (intros; first | omega | (refine ⟨by omega, ?_⟩; repeat (first | assumption | constructor)) | assumption))); intro _; try simp [h1, h2])
          | fail)
        refine CondK.intro (fun h4 => ?_) (fun h4 => ?_)
        · simp at h4
          rw [if_neg h4] at hc
          try simp [h1, h2]
          repeat' (first
            | ((with_reducible refine PreK.intro ?_ ?_); (next => (first | omega | (intros; first | omega | (refine ⟨by omega, ?_⟩; repeat (first | assumption | constructor)) | assumption))); intro _; try simp [h1, h2])
            | fail)
          apply hr
          simp [← hc]
        · simp at h4
          rw [if_pos h4] at hc
          try simp 
          repeat' (first
            | ((with_reducible refine PreK.intro ?_ ?_); (next => (first | omega | (intros; first | omega | (refine ⟨by omega, ?_⟩; repeat (first | assumption | constructor)) | assumption))); intro _; try simp )
            | fail)
          exact hq (i + 1) _ ⟨by omega, by omega, hc⟩ (by omega) (by simp)
      · simp at h3
    · have hb : b.drop i = [] := List.drop_eq_nil_of_le (by omega)
      rw [hb] at hc
      have hf : bef (a.drop i) [] = false := by cases a.drop i <;> rfl
      rw [hf] at hc
      try simp [h1, h2]
      repeat' (first
        | ((with_reducible refine PreK.intro ?_ ?_); (next => (first | omega | (intros; first | omega | (refine ⟨by omega, ?_⟩; repeat (first | assumption | constructor)) | assumption))); intro _; try simp [h1, h2])
        | fail)
      refine CondK.intro (fun h3 => ?_) (fun h3 => ?_)
      · simp at h3
      · try simp 
        repeat' (first
          | ((with_reducible refine PreK.intro ?_ ?_); (next => (first | omega | (intros; first | omega | (refine ⟨by omega, ?_⟩; repeat (first | assumption | constructor)) | assumption))); intro _; try simp )
          | fail)
        apply he
        simp [← hc]; omega
  · have h0 : i = a.length := by omega
    subst h0
    rw [List.drop_eq_nil_of_le (Nat.le_refl _)] at hc
    try simp 
    repeat' (first
      | ((with_reducible refine PreK.intro ?_ ?_); (next => (first | omega | (intros; first | omega | (refine ⟨by omega, ?_⟩; repeat (first | assumption | constructor)) | assumption))); intro _; try simp )
      | fail)
    refine CondK.intro (fun h3 => ?_) (fun h3 => ?_)
    · simp at h3
    · try simp 
      repeat' (first
        | ((with_reducible refine PreK.intro ?_ ?_); (next => (first | omega | (intros; first | omega | (refine ⟨by omega, ?_⟩; repeat (first | assumption | constructor)) | assumption))); intro _; try simp )
        | fail)
      apply he
      by_cases h2 : a.length < b.length
      · rw [drop_cons b _ h2, bef] at hc
        simp [← hc, h2]
      · rw [List.drop_eq_nil_of_le (by omega), bef] at hc
        simp [← hc, h2]
theorem insert_c (l : List Word) (w : Word) (hl : l.length ≤ 1000) (hs : ∀ x ∈ l, x.length ≤ 1000) (hw : w.length ≤ 1000) : CallP Try.prog 160 [wordsV l, ints w] (wordsV (insM w l)) := by
  refine C160 (by simp) ?_
  generalize hR : insM w l = R
  simp [A160]
  refine LoopK.by (fun i : Nat => ⟨[(5, iv i), (0, wordsV l), (1, ints w)], []⟩) (fun i => l.length - i) (fun i => i ≤ l.length ∧ l.take i ++ insM w (l.drop i) = R) 0 (by simpa using hR) (by simp) ?_
  intro i Q' ⟨hi, hc⟩ hq he hr
  by_cases h1 : i < l.length
  · have hm := el_mem_of l i h1
    rw [drop_cons l i h1, insM] at hc
    try simp [h1]
    repeat' (first
      | ((with_reducible refine PreK.intro ?_ ?_); (next => (first | omega | (intros; first | omega | (refine ⟨by omega, ?_⟩; repeat (first | assumption | constructor)) | assumption))); intro _; try simp [h1])
      | fail)
    refine CallG.intro (r := bv (bef (el l i) w)) (fun _ => by simpa using before1_c (el l i) w (hs _ hm)) (by simp) (by simp) ?_
    try simp 
    cases hb : bef (el l i) w
    · rw [hb] at hc
      simp only [Bool.false_eq_true, if_false] at hc
      refine CondK.intro (fun h2 => ?_) (fun h2 => ?_)
      · simp at h2
      · try simp 
        repeat' (first
          | ((with_reducible refine PreK.intro ?_ ?_); (next => (first | omega | (intros; first | omega | (refine ⟨by omega, ?_⟩; repeat (first | assumption | constructor)) | assumption))); intro _; try simp )
          | fail)
        apply he
        try simp [h1]
        repeat' (first
          | ((with_reducible refine PreK.intro ?_ ?_); (next => (first | omega | (intros; first | omega | (refine ⟨by omega, ?_⟩; repeat (first | assumption | constructor)) | assumption))); intro _; try simp [h1])
          | fail)
        refine CallG.intro (r := bv (decide (el l i = w))) (fun _ => by simpa using same1_c (el l i) w (big_of (hs _ hm))) (by simp) (by simp) ?_
        try simp 
        refine CondK.intro (fun h3 => ?_) (fun h3 => ?_)
        · simp at h3
          rw [if_pos h3, ← drop_cons l i h1, List.take_append_drop] at hc
          try simp 
          repeat' (first
            | ((with_reducible refine PreK.intro ?_ ?_); (next => (first | omega | (intros; first | omega | (refine ⟨by omega, ?_⟩; repeat (first | assumption | constructor)) | assumption))); intro _; try simp )
            | fail)
          simp [← hc]
        · simp at h3
          rw [if_neg h3, ← drop_cons l i h1] at hc
          have hm2 : min i l.length = i := by omega
          have t1 : List.take (i + 1) (List.take i (l.map ints) ++ [ints w]) = List.take i (l.map ints) ++ [ints w] := List.take_of_length_le (by simp; omega)
          have t2 : List.take (i + 1 + (l.length - i)) (List.take i (l.map ints) ++ ints w :: List.drop i (l.map ints)) = List.take i (l.map ints) ++ ints w :: List.drop i (l.map ints) := List.take_of_length_le (by simp; omega)
          have t0 : List.take i (List.take i (l.map ints)) = List.take i (l.map ints) := by rw [List.take_take, Nat.min_self]
          simp only [ints] at t0 t1 t2
          try simp [h1]
          repeat' (first
            | ((with_reducible refine PreK.intro ?_ ?_); (next => (first | omega | (intros; first | omega | (refine ⟨by omega, ?_⟩; repeat (first | assumption | constructor)) | assumption))); intro _; try simp [h1])
            | fail)
          simp [← hc, hm2, t0, t1, t2]
    · rw [hb] at hc
      simp only [if_true] at hc
      refine CondK.intro (fun h2 => ?_) (fun h2 => ?_)
      · try simp 
        repeat' (first
          | ((with_reducible refine PreK.intro ?_ ?_); (next => (first | omega | (intros; first | omega | (refine ⟨by omega, ?_⟩; repeat (first | assumption | constructor)) | assumption))); intro _; try simp )
          | fail)
        refine hq (i + 1) _ ⟨by omega, ?_⟩ (by omega) (by simp)
        rw [take_succ l i h1, List.append_assoc]
        exact hc
      · simp at h2
  · have h0 : i = l.length := by omega
    subst h0
    rw [List.drop_eq_nil_of_le (Nat.le_refl _)] at hc
    simp only [List.take_length, insM] at hc
    try simp 
    repeat' (first
      | ((with_reducible refine PreK.intro ?_ ?_); (next => (first | omega | (intros; first | omega | (refine ⟨by omega, ?_⟩; repeat (first | assumption | constructor)) | assumption))); intro _; try simp )
      | fail)
    refine CallG.intro (r := bv true) (fun hh => by cases hh) (by simp) (by simp) ?_
    try simp 
    refine CondK.intro (fun h3 => ?_) (fun h3 => ?_)
    · simp at h3
    · try simp 
      repeat' (first
        | ((with_reducible refine PreK.intro ?_ ?_); (next => (first | omega | (intros; first | omega | (refine ⟨by omega, ?_⟩; repeat (first | assumption | constructor)) | assumption))); intro _; try simp )
        | fail)
      apply he
      try simp 
      repeat' (first
        | ((with_reducible refine PreK.intro ?_ ?_); (next => (first | omega | (intros; first | omega | (refine ⟨by omega, ?_⟩; repeat (first | assumption | constructor)) | assumption))); intro _; try simp )
        | fail)
      refine CallG.intro (r := bv true) (fun hh => by cases hh) (by simp) (by simp) ?_
      try simp 
      refine CondK.intro (fun h4 => ?_) (fun h4 => ?_)
      · simp at h4
      · try simp 
        repeat' (first
          | ((with_reducible refine PreK.intro ?_ ?_); (next => (first | omega | (intros; first | omega | (refine ⟨by omega, ?_⟩; repeat (first | assumption | constructor)) | assumption))); intro _; try simp )
          | fail)
        simp [← hc, take_map_one]
theorem insM_words (w : Word) (n : Nat) (hw : w.length ≤ n) {l : List Word} (hs : ∀ x ∈ l, x.length ≤ n) : ∀ x ∈ insM w l, x.length ≤ n := by
  intro x hx
  rcases mem_insM.1 hx with rfl | hx
  · exact hw
  · exact hs x hx
def nxtR (s : List Rule) (w : Word) : List Word := insA [] ((movesM s w).map (·.word))
theorem rnext_c (s : List Rule) (w : List Int) (h : Sys.small s) (hs : sysErr s = 0) (hw : wordErr w = 0) : CallP Try.prog 163 [rulesV s, ints w] (wordsV (nxtR s w)) := by
  refine C163 (by simp) ?_
  have hst := rsteps_c s w h (sysErr_zero hs).1 (wordErr_zero hw).1
  have hmr := fun m hm => @moves_right s w hs hw m hm
  have hml := movesM_len hs hw
  unfold nxtR
  generalize hS : (movesM s w).map (·.step) = S at hst
  have hws : ∀ x ∈ (movesM s w).map (·.word), x.length ≤ 8 := by
    intro x hx
    obtain ⟨m, hm, rfl⟩ := List.mem_map.1 hx
    exact (wordErr_zero (hmr m hm)).1
  have hwl : ((movesM s w).map (·.word)).length ≤ 54 := by simpa using hml
  generalize (movesM s w).map (·.word) = ws at hst hws hwl
  generalize hR : insA [] ws = R
  simp [A163]
  try simp 
  repeat' (first
    | (refine CallX.pure (hst) (by simp) (by simp) ?_; try simp )
    | (refine CallK.intro (hst) (by simp) (by simp) ?_; try simp )
    | (refine CallG.intro (fun _ => hst) (by simp) (by simp) ?_; try simp )
    | ((with_reducible refine PreK.intro ?_ ?_); (next => (first | omega | (intros; first | omega | (refine ⟨by omega, ?_⟩; repeat (first | assumption | constructor)) | assumption))); intro _; try simp )
    | fail)
  refine LoopK.frz 7 (b := ⟨1, [], 1, false⟩) (by simp) (by simp) ?_
  refine LoopK.by (ι := Nat × List Word) (fun x => ⟨[(8, iv x.1), (6, wordsV ws), (7, wordsV x.2)], []⟩) (fun x => ws.length - x.1) (fun x => x.1 ≤ ws.length ∧ x.2.length ≤ x.1 ∧ (∀ y ∈ x.2, y.length ≤ 8) ∧ insA x.2 (ws.drop x.1) = R) (0, []) (by simpa using hR) (by simp) ?_
  intro ⟨i, acc⟩ Q' ⟨hi, ha, hy, hc⟩ hq he hr
  dsimp only at hi ha hy hc
  try simp 
  refine CondK.intro (fun h1 => ?_) (fun h1 => ?_)
  · simp at h1
    have h8 := hws _ (el_mem_of ws i h1)
    rw [drop_cons ws i h1, insA] at hc
    try simp [h1]
    repeat' (first
      | (refine CallX.pure (insert_c acc (el ws i) (by omega) (fun x hx => Nat.le_trans (hy x hx) (by omega)) (by omega)) (by simp) (by simp) ?_; try simp [h1])
      | (refine CallK.intro (insert_c acc (el ws i) (by omega) (fun x hx => Nat.le_trans (hy x hx) (by omega)) (by omega)) (by simp) (by simp) ?_; try simp [h1])
      | (refine CallG.intro (fun _ => insert_c acc (el ws i) (by omega) (fun x hx => Nat.le_trans (hy x hx) (by omega)) (by omega)) (by simp) (by simp) ?_; try simp [h1])
      | ((with_reducible refine PreK.intro ?_ ?_); (next => (first | omega | (intros; first | omega | (refine ⟨by omega, ?_⟩; repeat (first | assumption | constructor)) | assumption))); intro _; try simp [h1])
      | fail)
    refine hq (i + 1, insM (el ws i) acc) _ ⟨by dsimp only; omega, ?_, insM_words _ 8 h8 hy, hc⟩ (by dsimp only; omega) (by simp)
    have := insM_len (el ws i) acc
    dsimp only; omega
  · simp at h1
    rw [List.drop_eq_nil_of_le (by omega), insA] at hc
    try simp 
    apply he
    try simp 
    repeat' (first
      | ((with_reducible refine PreK.intro ?_ ?_); (next => (first | omega | (intros; first | omega | (refine ⟨by omega, ?_⟩; repeat (first | assumption | constructor)) | assumption))); intro _; try simp )
      | fail)
    simp [← hc]
def NextRef (s : List Rule) (w : Word) : List Word × Int := if swErr s w ≠ 0 then ([], swErr s w) else (nxtR s w, 0)
theorem rNext_c (s : List Rule) (w : List Int) (h : Sys.small s) (hw : w.length ≤ 1000) : CallP Try.prog 79 [rulesV s, ints w] (.tup [wordsV (NextRef s w).1, iv (NextRef s w).2]) := by
  refine C79 (by simp) ?_
  have hck := rworded_c s w [] h hw (by simp)
  rw [check_nil] at hck
  simp [A79]
  try simp 
  repeat' (first
    | (refine CallX.pure (hck) (by simp) (by simp) ?_; try simp )
    | (refine CallK.intro (hck) (by simp) (by simp) ?_; try simp )
    | (refine CallG.intro (fun _ => hck) (by simp) (by simp) ?_; try simp )
    | ((with_reducible refine PreK.intro ?_ ?_); (next => (first | omega | (intros; first | omega | (refine ⟨by omega, ?_⟩; repeat (first | assumption | constructor)) | assumption))); intro _; try simp )
    | fail)
  refine CondK.intro (fun h1 => ?_) (fun h1 => ?_)
  · simp at h1
    simp [NextRef, h1]
  · simp at h1
    try simp 
    repeat' (first
      | (refine CallX.pure (rnext_c s w h (swErr_zero h1).1 (swErr_zero h1).2) (by simp) (by simp) ?_; try simp )
      | (refine CallK.intro (rnext_c s w h (swErr_zero h1).1 (swErr_zero h1).2) (by simp) (by simp) ?_; try simp )
      | (refine CallG.intro (fun _ => rnext_c s w h (swErr_zero h1).1 (swErr_zero h1).2) (by simp) (by simp) ?_; try simp )
      | ((with_reducible refine PreK.intro ?_ ?_); (next => (first | omega | (intros; first | omega | (refine ⟨by omega, ?_⟩; repeat (first | assumption | constructor)) | assumption))); intro _; try simp )
      | fail)
    simp [NextRef, h1]
theorem Next_same (s : List Rule) (w : Word) : NextE s w = NextRef s w := by
  unfold NextE NextRef NextR nxtR
  rw [uniq_insA (m := (movesM s w).map (·.word)) (fun z => Iff.rfl)]
theorem insA_words (n : Nat) : ∀ (ws acc : List Word), (∀ x ∈ ws, x.length ≤ n) → (∀ x ∈ acc, x.length ≤ n) → ∀ x ∈ insA acc ws, x.length ≤ n
  | [], acc, _, h => h
  | w :: ws, acc, hw, h => insA_words n ws _ (fun x hx => hw x (by simp [hx])) (insM_words w n (hw w (by simp)) h)
theorem NextRef_small (s : List Rule) (w : Word) : (NextRef s w).1.length ≤ 1000 ∧ ∀ x ∈ (NextRef s w).1, x.length ≤ 1000 := by
  unfold NextRef
  split
  · simp
  · rename_i h0
    simp only [ne_eq, Decidable.not_not] at h0
    obtain ⟨hs, hw⟩ := swErr_zero h0
    have hml := movesM_len hs hw
    refine ⟨?_, insA_words 1000 _ [] (fun x hx => ?_) (by simp)⟩
    · have := insA_len ((movesM s w).map (·.word)) []
      simp at this
      simp only [nxtR]; omega
    · obtain ⟨m, hm, rfl⟩ := List.mem_map.1 hx
      have := (wordErr_zero (moves_right hs hw hm)).1
      omega
theorem lawFeedNexts_c (s : List Rule) (w : List Int) (hb : s.length ≤ big) (hwb : w.length ≤ big) : CallP Try.prog 16 [rulesV s, ints w] (bv true) := by
  refine C16 (by simp) ?_
  simp [A16]
  refine CallX.pure (by simpa using long3_c s hb) (by simp) (by simp) ?_
  try simp 
  cases hl : longS s
  · have hs := longS_small hl
    by_cases h2 : 100 < w.length
    · try simp 
      repeat' (first
        | (refine CallX.pure (large3_c w) (by simp) (by simp) ?_; try simp )
        | (refine CallK.intro (large3_c w) (by simp) (by simp) ?_; try simp )
        | (refine CallG.intro (fun _ => large3_c w) (by simp) (by simp) ?_; try simp )
        | ((with_reducible refine PreK.intro ?_ ?_); (next => (first | omega | (intros; first | omega | (refine ⟨by omega, ?_⟩; repeat (first | assumption | constructor)) | assumption))); intro _; try simp )
        | fail)
      refine CondK.intro (fun h3 => ?_) (fun h3 => ?_)
      · try simp 
        repeat' (first
          | (refine CallX.pure (known_c) (by simp) (by simp) ?_; try simp )
          | (refine CallK.intro (known_c) (by simp) (by simp) ?_; try simp )
          | (refine CallG.intro (fun _ => known_c) (by simp) (by simp) ?_; try simp )
          | ((with_reducible refine PreK.intro ?_ ?_); (next => (first | omega | (intros; first | omega | (refine ⟨by omega, ?_⟩; repeat (first | assumption | constructor)) | assumption))); intro _; try simp )
          | fail)
      · simp at h3; omega
    · try simp 
      repeat' (first
        | (refine CallX.pure (large3_c w) (by simp) (by simp) ?_; try simp )
        | (refine CallK.intro (large3_c w) (by simp) (by simp) ?_; try simp )
        | (refine CallG.intro (fun _ => large3_c w) (by simp) (by simp) ?_; try simp )
        | ((with_reducible refine PreK.intro ?_ ?_); (next => (first | omega | (intros; first | omega | (refine ⟨by omega, ?_⟩; repeat (first | assumption | constructor)) | assumption))); intro _; try simp )
        | fail)
      refine CondK.intro (fun h3 => ?_) (fun h3 => ?_)
      · simp at h3; omega
      · have hw : w.length ≤ 1000 := by omega
        have h4 := Next_c s w hs hw
        have h5 := rNext_c s w hs hw
        obtain ⟨n1, n2⟩ := NextRef_small s w
        rw [Next_same] at h4
        have h6 := sameLists_c (NextRef s w).1 (NextRef s w).1 (big_of n1) (fun x hx => big_of (n2 x hx))
        generalize NextRef s w = E at h4 h5 h6
        obtain ⟨E1, E2⟩ := E
        dsimp only at h4 h5 h6
        try simp 
        repeat' (first
          | (refine CallX.pure (h4) (by simp) (by simp) ?_; try simp )
          | (refine CallK.intro (h4) (by simp) (by simp) ?_; try simp )
          | (refine CallG.intro (fun _ => h4) (by simp) (by simp) ?_; try simp )
          | (refine CallX.pure (h5) (by simp) (by simp) ?_; try simp )
          | (refine CallK.intro (h5) (by simp) (by simp) ?_; try simp )
          | (refine CallG.intro (fun _ => h5) (by simp) (by simp) ?_; try simp )
          | (refine CallX.pure (h6) (by simp) (by simp) ?_; try simp )
          | (refine CallK.intro (h6) (by simp) (by simp) ?_; try simp )
          | (refine CallG.intro (fun _ => h6) (by simp) (by simp) ?_; try simp )
          | (refine CallX.pure (known_c) (by simp) (by simp) ?_; try simp )
          | (refine CallK.intro (known_c) (by simp) (by simp) ?_; try simp )
          | (refine CallG.intro (fun _ => known_c) (by simp) (by simp) ?_; try simp )
          | ((with_reducible refine PreK.intro ?_ ?_); (next => (first | omega | (intros; first | omega | (refine ⟨by omega, ?_⟩; repeat (first | assumption | constructor)) | assumption))); intro _; try simp )
          | fail)
  · try simp 
    repeat' (first
      | ((with_reducible refine PreK.intro ?_ ?_); (next => (first | omega | (intros; first | omega | (refine ⟨by omega, ?_⟩; repeat (first | assumption | constructor)) | assumption))); intro _; try simp )
      | fail)
    refine CallG.intro (r := bv true) (fun hh => by cases hh) (by simp) (by simp) ?_
    try simp 
    refine CondK.intro (fun h3 => ?_) (fun h3 => ?_)
    · try simp 
      repeat' (first
        | (refine CallX.pure (known_c) (by simp) (by simp) ?_; try simp )
        | (refine CallK.intro (known_c) (by simp) (by simp) ?_; try simp )
        | (refine CallG.intro (fun _ => known_c) (by simp) (by simp) ?_; try simp )
        | ((with_reducible refine PreK.intro ?_ ?_); (next => (first | omega | (intros; first | omega | (refine ⟨by omega, ?_⟩; repeat (first | assumption | constructor)) | assumption))); intro _; try simp )
        | fail)
    · simp at h3
end Go.Proofs.Ytaooenmkofjafaa
end

section
/- Plain: the two searches, the program's and the reference's, find the same words. -/
namespace Go.Proofs.Ytaooenmkofjafaa
open Go.Abs Go

theorem el_app_left {α : Type} [Inhabited α] (a b : List α) {i : Nat} (h : i < a.length) : el (a ++ b) i = el a i := by
  unfold el; rw [List.getD_eq_getElem?_getD, List.getD_eq_getElem?_getD, List.getElem?_append_left h]
theorem el_app_mid {α : Type} [Inhabited α] (a : List α) (x : α) : el (a ++ [x]) a.length = x := by
  unfold el; simp
theorem el_mapG {α β : Type} [Inhabited α] [Inhabited β] (f : α → β) (l : List α) {k : Nat} (h : k < l.length) : el (l.map f) k = f (el l k) := by
  rw [el_eq _ _ (by simpa using h), el_eq _ _ h]; simp
/-! ### the program's search -/
def nxP (s : List Rule) (v : Word) : List Word := (movesM s v).map (·.word)
/-- What whence and by which step say. -/
structure GrD (s : List Rule) (g : Gr) (ws : List WN) : Prop where
  words : g.ws = ws.map (·.1)
  frm : g.frm.length = ws.length
  stp : g.stp.length = ws.length
  root : 0 < ws.length → el g.frm 0 = -1
  back : ∀ j, 0 < j → j < ws.length → ∃ i : Nat, el g.frm j = (i : Int) ∧ i < j ∧ (el ws j).2 = (el ws i).2 + 1 ∧ (⟨el g.stp j, (el ws j).1⟩ : Move) ∈ movesM s (el ws i).1
theorem addG_F {s : List Rule} {i : Nat} : ∀ {l : List Move} {g : Gr} {ws : List WN}, GrD s g ws → i < ws.length → (∀ m ∈ l, m ∈ movesM s (el ws i).1) →
    match addG i g l, addF ((el ws i).2 + 1) ws (l.map (·.word)) with
    | some g', some ws' => GrD s g' ws'
    | none, none => True
    | _, _ => False
  | [], g, ws, h, _, _ => by simpa [addG, addF] using h
  | m :: l, g, ws, h, hi, hl => by
    rw [addG, List.map_cons, addF, h.words]
    by_cases hm : m.word ∈ ws.map (·.1)
    · rw [if_pos hm, if_pos hm]
      exact addG_F h hi fun x hx => hl x (by simp [hx])
    · rw [if_neg hm, if_neg hm, List.length_map]
      by_cases h3 : ws.length = 300
      · rw [if_pos h3, if_pos h3]; trivial
      · rw [if_neg h3, if_neg h3]
        have e : el (ws ++ [(m.word, (el ws i).2 + 1)]) i = el ws i := el_app_left _ _ hi
        have hn : GrD s ⟨ws.map (·.1) ++ [m.word], g.frm ++ [(i : Int)], g.stp ++ [m.step]⟩ (ws ++ [(m.word, (el ws i).2 + 1)]) := by
          refine ⟨by simp, by simp [h.frm], by simp [h.stp], fun _ => ?_, fun j h0 hj => ?_⟩
          · dsimp only
            rw [el_app_left _ _ (by have := h.frm; omega)]
            exact h.root (by omega)
          · dsimp only
            by_cases hjl : j < ws.length
            · obtain ⟨k, h1, h2, h4, h5⟩ := h.back j h0 hjl
              refine ⟨k, ?_, h2, ?_, ?_⟩
              · rw [el_app_left _ _ (by have := h.frm; omega)]; exact h1
              · rw [el_app_left _ _ hjl, el_app_left _ _ (by omega)]; exact h4
              · rw [el_app_left _ _ hjl, el_app_left _ _ (by omega), el_app_left _ _ (by have := h.stp; omega)]; exact h5
            · have hjl : j = ws.length := by simp at hj; omega
              subst hjl
              refine ⟨i, ?_, hi, ?_, ?_⟩
              · rw [← h.frm, el_app_mid]
              · rw [el_app_mid, e]
              · rw [el_app_mid, e, ← h.stp, el_app_mid]
                exact hl m (by simp)
        have ih := addG_F (i := i) (l := l) hn (by simp; omega) (fun x hx => by rw [e]; exact hl x (by simp [hx]))
        rw [e] at ih
        exact ih
theorem closeG_F {s : List Rule} : ∀ (n i : Nat) {g : Gr} {ws : List WN}, GrD s g ws →
    match closeG s n i g, closeF (nxP s) n i ws with
    | some g', some ws' => GrD s g' ws'
    | none, none => True
    | _, _ => False
  | 0, i, g, ws, h => by simpa [closeG, closeF] using h
  | n + 1, i, g, ws, h => by
    rw [closeG, closeF]
    have hl : g.ws.length = ws.length := by rw [h.words]; simp
    by_cases hi : i < ws.length
    · rw [if_pos (by omega), if_pos hi]
      have ew : el g.ws i = (el ws i).1 := by rw [h.words, el_mapG _ _ hi]
      have ha := addG_F (s := s) (i := i) (l := movesM s (el ws i).1) h hi (fun m hm => hm)
      rw [ew]
      unfold nxP at *
      cases h1 : addG i g (movesM s (el ws i).1) with
      | none =>
        cases h2 : addF ((el ws i).2 + 1) ws ((movesM s (el ws i).1).map (·.word)) with
        | none => trivial
        | some ws' => rw [h1, h2] at ha; exact ha.elim
      | some g' =>
        cases h2 : addF ((el ws i).2 + 1) ws ((movesM s (el ws i).1).map (·.word)) with
        | none => rw [h1, h2] at ha; exact ha.elim
        | some ws' =>
          rw [h1, h2] at ha
          exact closeG_F n (i + 1) ha
    · rw [if_neg (by omega), if_neg hi]
      exact h
theorem reachG_F (s : List Rule) (w : Word) :
    match reachG s w, closeM (nxP s) w with
    | some g', some ws' => GrD s g' ws'
    | none, none => True
    | _, _ => False := by
  refine closeG_F 301 0 ⟨rfl, rfl, rfl, fun _ => rfl, fun j h0 hj => ?_⟩
  simp at hj; omega
/-! ### the reference's search -/
def nxR (s : List Rule) (v : Word) : List Word := insA [] (nxP s v)
theorem mem_nxR {s : List Rule} {v x : Word} : x ∈ nxR s v ↔ x ∈ nxP s v := by
  unfold nxR
  rw [(insA_spec _ [] List.Pairwise.nil).2]
  simp
/-- The place of a word, or -1. -/
def findI (l : List Word) (w : Word) : Int := idxG (fun x => decide (x = w)) 0 l
theorem idxG_lt {α : Type} [Inhabited α] (p : α → Bool) : ∀ (l : List α) (k : Nat), idxG p k l = -1 ∨ ∃ i, i < l.length ∧ idxG p k l = ((k + i : Nat) : Int) ∧ p (el l i) = true
  | [], k => .inl rfl
  | x :: l, k => by
    by_cases h : p x = true
    · exact .inr ⟨0, by simp, by simp [idxG, h], by simpa [el] using h⟩
    · rcases idxG_lt p l (k + 1) with e | ⟨i, h1, h2, h3⟩
      · exact .inl (by simp [idxG, h, e])
      · refine .inr ⟨i + 1, by simp; omega, ?_, by simpa [el] using h3⟩
        rw [idxG, if_neg h, h2]
        omega
theorem findI_mem (l : List Word) (w : Word) : decide (0 ≤ findI l w) = decide (w ∈ l) := by
  unfold findI
  rw [idxG_any, Bool.eq_iff_iff]
  simp
theorem findI_spec {l : List Word} {w : Word} (h : w ∈ l) : ∃ i, i < l.length ∧ findI l w = (i : Int) ∧ el l i = w := by
  rcases idxG_lt (fun x => decide (x = w)) l 0 with e | ⟨i, h1, h2, h3⟩
  · have := findI_mem l w
    unfold findI at this
    rw [e] at this
    simp [h] at this
  · exact ⟨i, h1, by unfold findI; rw [h2]; simp, by simpa using h3⟩
theorem findI_no {l : List Word} {w : Word} (h : w ∉ l) : findI l w = -1 := by
  rcases idxG_lt (fun x => decide (x = w)) l 0 with e | ⟨i, h1, h2, h3⟩
  · exact e
  · simp only [decide_eq_true_eq] at h3
    exact absurd (by rw [← h3]; exact el_mem_of l i h1) h
structure RG where
  ws : List Word
  nx : List (List Int)
  far : List Int
/-- The words to which one leads: their places, and the new ones put at the end. -/
def raddG (d : Int) : List Word → List Int → List Int → List Word → Option (List Word × List Int × List Int)
  | ws, fr, l, [] => some (ws, fr, l)
  | ws, fr, l, v :: m => if findI ws v < 0 then if ws.length = 300 then none else raddG d (ws ++ [v]) (fr ++ [d]) (l ++ [(ws.length : Int)]) m else raddG d ws fr (l ++ [findI ws v]) m
def rcloseG (s : List Rule) : Nat → Nat → RG → Option RG
  | 0, _, g => some g
  | n + 1, i, g => if i < g.ws.length then match raddG (el g.far i + 1) g.ws g.far [] (nxR s (el g.ws i)) with
      | none => none
      | some (ws, fr, l) => rcloseG s n (i + 1) ⟨ws, g.nx ++ [l], fr⟩
    else some g
def rreachG (s : List Rule) (w : Word) : Option RG := rcloseG s 301 0 ⟨[w], [], [0]⟩
/-- A list of places of words. -/
def atsOf (ws : List Word) (l : List Int) (m : List Word) : Prop := l.length = m.length ∧ ∀ q, q < m.length → ∃ k : Nat, el l q = (k : Int) ∧ k < ws.length ∧ el ws k = el m q
theorem atsOf.more {ws : List Word} {l : List Int} {m : List Word} (h : atsOf ws l m) (t : List Word) : atsOf (ws ++ t) l m := by
  refine ⟨h.1, fun q hq => ?_⟩
  obtain ⟨k, h1, h2, h3⟩ := h.2 q hq
  exact ⟨k, h1, by simp; omega, by rw [el_app_left _ _ h2]; exact h3⟩
theorem atsOf.push {ws : List Word} {l : List Int} {m : List Word} (h : atsOf ws l m) {k : Nat} (hk : k < ws.length) : atsOf ws (l ++ [(k : Int)]) (m ++ [el ws k]) := by
  refine ⟨by simp [h.1], fun q hq => ?_⟩
  by_cases hq2 : q < m.length
  · obtain ⟨j, h1, h2, h3⟩ := h.2 q hq2
    exact ⟨j, by rw [el_app_left _ _ (by have := h.1; omega)]; exact h1, h2, by rw [el_app_left _ _ hq2]; exact h3⟩
  · have hq3 : q = m.length := by simp at hq; omega
    subst hq3
    exact ⟨k, by rw [← h.1, el_app_mid], hk, by rw [el_app_mid]⟩
theorem raddG_F {d : Nat} : ∀ {m : List Word} {ws : List WN} {l : List Int} {m0 : List Word}, atsOf (ws.map (·.1)) l m0 →
    match raddG (d : Int) (ws.map (·.1)) (ws.map fun x => (x.2 : Int)) l m, addF d ws m with
    | some r, some ws' => r.1 = ws'.map (·.1) ∧ r.2.1 = ws'.map (fun x => (x.2 : Int)) ∧ (∃ t, ws' = ws ++ t) ∧ atsOf (ws'.map (·.1)) r.2.2 (m0 ++ m)
    | none, none => True
    | _, _ => False
  | [], ws, l, m0, h => by
    rw [raddG, addF]
    exact ⟨rfl, rfl, ⟨[], by simp⟩, by simpa using h⟩
  | v :: m, ws, l, m0, h => by
    rw [raddG, addF]
    by_cases hv : v ∈ ws.map (·.1)
    · obtain ⟨i, h1, h2, h3⟩ := findI_spec hv
      rw [if_pos hv, if_neg (by omega), h2]
      have hp := h.push h1
      rw [h3] at hp
      have ih := raddG_F (d := d) (m := m) hp
      rw [List.append_assoc, List.singleton_append] at ih
      exact ih
    · rw [if_neg hv, if_pos (by rw [findI_no hv]; decide), List.length_map]
      by_cases h3 : ws.length = 300
      · rw [if_pos h3, if_pos h3]; trivial
      · rw [if_neg h3, if_neg h3]
        have hm : atsOf ((ws ++ [(v, d)]).map (·.1)) l m0 := by
          rw [List.map_append]
          exact h.more _
        have hp := hm.push (k := ws.length) (by simp)
        have e : el ((ws ++ [(v, d)]).map (·.1)) ws.length = v := by
          have := el_app_mid (ws.map (·.1)) v
          rw [List.length_map] at this
          simpa using this
        rw [e] at hp
        have ih := raddG_F (d := d) (m := m) hp
        rw [List.append_assoc, List.singleton_append] at ih
        rw [show ws.map (·.1) ++ [v] = (ws ++ [(v, d)]).map (·.1) by simp, show (ws.map fun x => (x.2 : Int)) ++ [(d : Int)] = (ws ++ [(v, d)]).map fun x => (x.2 : Int) by simp]
        revert ih
        cases raddG (d : Int) ((ws ++ [(v, d)]).map (·.1)) ((ws ++ [(v, d)]).map fun x => (x.2 : Int)) (l ++ [(ws.length : Int)]) m with
        | none =>
          cases addF d (ws ++ [(v, d)]) m with
          | none => intro _; trivial
          | some ws' => intro ih; exact ih.elim
        | some r =>
          cases addF d (ws ++ [(v, d)]) m with
          | none => intro ih; exact ih
          | some ws' =>
            rintro ⟨h1, h2, ⟨t, h4⟩, h5⟩
            exact ⟨h1, h2, ⟨(v, d) :: t, by rw [h4]; simp⟩, h5⟩
/-- What the reference's graph is. -/
structure RGD (s : List Rule) (i : Nat) (g : RG) (ws : List WN) : Prop where
  words : g.ws = ws.map (·.1)
  far : g.far = ws.map fun x => (x.2 : Int)
  num : g.nx.length = i
  nx : ∀ j, j < i → atsOf g.ws (el g.nx j) (nxR s (el g.ws j))
theorem rcloseG_F {s : List Rule} : ∀ (n i : Nat) {g : RG} {ws : List WN}, n + i = 301 → ws.length ≤ 300 → i ≤ ws.length → RGD s i g ws →
    match rcloseG s n i g, closeF (nxR s) n i ws with
    | some g', some ws' => RGD s ws'.length g' ws' ∧ ws'.length ≤ 300
    | none, none => True
    | _, _ => False
  | 0, i, g, ws, hn, hw, hi, h => by omega
  | n + 1, i, g, ws, hn, hw, hi, h => by
    rw [rcloseG, closeF]
    have hl : g.ws.length = ws.length := by rw [h.words]; simp
    by_cases hi2 : i < ws.length
    · rw [if_pos (by omega), if_pos hi2]
      have ew : el g.ws i = (el ws i).1 := by rw [h.words, el_mapG _ _ hi2]
      have ef : el g.far i + 1 = (((el ws i).2 + 1 : Nat) : Int) := by rw [h.far, el_mapG _ _ hi2]; omega
      have ha := raddG_F (d := (el ws i).2 + 1) (m := nxR s (el ws i).1) (ws := ws) (l := []) (m0 := []) ⟨rfl, fun q hq => by simp at hq⟩
      rw [ew, ef, h.words, h.far]
      cases h1 : raddG (((el ws i).2 + 1 : Nat) : Int) (ws.map (·.1)) (ws.map fun x => (x.2 : Int)) [] (nxR s (el ws i).1) with
      | none =>
        cases h2 : addF ((el ws i).2 + 1) ws (nxR s (el ws i).1) with
        | none => trivial
        | some ws' => rw [h1, h2] at ha; exact ha.elim
      | some r =>
        cases h2 : addF ((el ws i).2 + 1) ws (nxR s (el ws i).1) with
        | none => rw [h1, h2] at ha; exact ha.elim
        | some ws' =>
          rw [h1, h2] at ha
          obtain ⟨a1, a2, ⟨t, a3⟩, a4⟩ := ha
          obtain ⟨rw1, rw2, rw3⟩ := r
          dsimp only at a1 a2 a4 ⊢
          have hlen : ws'.length ≤ 300 := by
            have key : ∀ (m : List Word) (d : Nat) (ws ws' : List WN), ws.length ≤ 300 → addF d ws m = some ws' → ws'.length ≤ 300 := by
              intro m
              induction m with
              | nil => intro d ws ws' hw h; simp only [addF, Option.some.injEq] at h; subst h; exact hw
              | cons v m ih =>
                intro d ws ws' hw h
                rw [addF] at h
                split at h
                · exact ih d ws ws' hw h
                · split at h
                  · cases h
                  · rename_i h300
                    exact ih d _ ws' (by simp; omega) h
            exact key _ _ _ _ hw h2
          refine rcloseG_F n (i + 1) (by omega) hlen (by rw [a3]; simp; omega) ⟨a1, a2, by simp [h.num], fun j hj => ?_⟩
          dsimp only
          by_cases hj2 : j < i
          · rw [el_app_left _ _ (by have := h.num; omega)]
            have := (h.nx j hj2).more (t.map (·.1))
            have e1 : g.ws ++ t.map (·.1) = rw1 := by rw [a1, a3, h.words]; simp
            rw [e1] at this
            have e2 : el rw1 j = el g.ws j := by rw [← e1, el_app_left _ _ (by omega)]
            rw [e2]; exact this
          · have hj3 : j = i := by omega
            subst hj3
            have e1 : el (g.nx ++ [rw3]) j = rw3 := by
              have := el_app_mid g.nx rw3
              rw [h.num] at this; exact this
            have e2 : el rw1 j = (el ws j).1 := by rw [a1, a3, el_mapG _ _ (by simp; omega), el_app_left _ _ hi2]
            rw [e1, e2, a1]
            simpa using a4
    · rw [if_neg (by omega), if_neg hi2]
      have : i = ws.length := by omega
      subst this
      exact ⟨h, hw⟩
theorem rreachG_F (s : List Rule) (w : Word) :
    match rreachG s w, closeM (nxR s) w with
    | some g', some ws' => RGD s ws'.length g' ws' ∧ ws'.length ≤ 300
    | none, none => True
    | _, _ => False := by
  refine rcloseG_F 301 0 (by omega) (by simp) (by simp) ⟨rfl, rfl, rfl, fun j hj => by omega⟩
/-- Both searches, side by side. -/
theorem graphs_same (s : List Rule) (w : Word) :
    match reachG s w, rreachG s w with
    | some g, some r => ∃ ws rs : List WN, GrD s g ws ∧ RGD s rs.length r rs ∧ Closed (nxP s) w ws ∧ Closed (nxR s) w rs ∧ ∀ y, y ∈ ws ↔ y ∈ rs
    | none, none => True
    | _, _ => False := by
  have h1 := reachG_F s w
  have h2 := rreachG_F s w
  have h3 := closeM_same (nx := nxP s) (nx' := nxR s) (fun v x => mem_nxR.symm) w
  cases c1 : closeM (nxP s) w with
  | none =>
    cases c2 : closeM (nxR s) w with
    | none =>
      rw [c1] at h1; rw [c2] at h2
      cases g1 : reachG s w with
      | none =>
        cases g2 : rreachG s w with
        | none => trivial
        | some r => rw [g2] at h2; exact h2.elim
      | some g => rw [g1] at h1; exact h1.elim
    | some rs => rw [c1, c2] at h3; exact h3.elim
  | some ws =>
    cases c2 : closeM (nxR s) w with
    | none => rw [c1, c2] at h3; exact h3.elim
    | some rs =>
      rw [c1, c2] at h3
      rw [c1] at h1; rw [c2] at h2
      cases g1 : reachG s w with
      | none => rw [g1] at h1; exact h1.elim
      | some g =>
        cases g2 : rreachG s w with
        | none => rw [g2] at h2; exact h2.elim
        | some r =>
          rw [g1] at h1; rw [g2] at h2
          exact ⟨ws, rs, h1, h2.1, closeM_some c1, closeM_some c2, h3⟩
end Go.Proofs.Ytaooenmkofjafaa
end

section
/- PURSE -/
/- Contracts: the reference's search. (written by gen/mkrb.py) -/
namespace Go.Proofs.Ytaooenmkofjafaa
open Go.Abs Go
set_option maxRecDepth 20000
set_option maxHeartbeats 8000000
attribute [local irreducible] PreK CondK CallK CallG CallX LoopK
attribute [local simp] avsEq avEq akind teq vkind vEq

theorem CX211 {args : List AV} {r : AV} (hn : args.length ≤ 82) (h : vc Try.prog T [13, 14] A211 (Fin T [(.cell 4 167), (.tmp 5)] r) ⟨envOf 0 args, []⟩) : CallP Try.prog 211 args r :=
  callP_of tok mixed Try.func211 (by kernel_rfl) (by kernel_rfl) (by kernel_rfl : Try.f211.ntmps = 82) (by kernel_rfl : Try.f211.body.bind (strip 82 (fun _ => [])) = some A211) hn h
theorem find_c (l : List Word) (w : Word) (hl : l.length ≤ 1000) (hs : ∀ x ∈ l, x.length ≤ 1000) : CallP Try.prog 178 [wordsV l, ints w] (iv (findI l w)) := by
  refine C178 (by simp) ?_
  generalize hR : findI l w = R
  unfold findI at hR
  simp [A178]
  refine LoopK.by (fun i : Nat => ⟨[(5, iv i), (0, wordsV l), (1, ints w)], []⟩) (fun i => l.length - i) (fun i => i ≤ l.length ∧ idxG (fun x => decide (x = w)) i (l.drop i) = R) 0 (by simpa using hR) (by simp) ?_
  intro i Q' ⟨hi, hc⟩ hq he hr
  try simp 
  refine CondK.intro (fun h1 => ?_) (fun h1 => ?_)
  · simp at h1
    rw [drop_cons l i h1, idxG] at hc
    try simp [h1]
    repeat' (first
      | (refine CallX.pure (same1_c (el l i) w (big_of (hs _ (el_mem_of l i h1)))) (by simp) (by simp) ?_; try simp [h1])
      | (refine CallK.intro (same1_c (el l i) w (big_of (hs _ (el_mem_of l i h1)))) (by simp) (by simp) ?_; try simp [h1])
      | (refine CallG.intro (fun _ => same1_c (el l i) w (big_of (hs _ (el_mem_of l i h1)))) (by simp) (by simp) ?_; try simp [h1])
      | ((with_reducible refine PreK.intro ?_ ?_); (next => (first | omega | (intros; first | omega | (refine ⟨by omega, ?_⟩; repeat (first | assumption | constructor)) | assumption))); intro _; try simp [h1])
      | fail)
    refine CondK.intro (fun h2 => ?_) (fun h2 => ?_)
    · simp at h2
      rw [if_pos (by simpa using h2)] at hc
      try simp 
      apply hr
      simp [← hc]
    · simp at h2
      rw [if_neg (by simpa using h2)] at hc
      try simp 
      repeat' (first
        | ((with_reducible refine PreK.intro ?_ ?_); (next => (first | omega | (intros; first | omega | (refine ⟨by omega, ?_⟩; repeat (first | assumption | constructor)) | assumption))); intro _; try simp )
        | fail)
      exact hq (i + 1) _ ⟨by omega, hc⟩ (by omega) (by simp)
  · simp at h1
    rw [List.drop_eq_nil_of_le (by omega), idxG] at hc
    try simp 
    apply he
    simp [← hc]
def rzeroV : AV := .agg [.seq 1 [] false, .seq 1 [] false, .seq 1 [] false]
def rgraphV (g : RG) : AV := .agg [wordsV g.ws, .seq 1 (g.nx.map ints) false, ints g.far]
def rreachV : Option RG → AV
  | none => .tup [rzeroV, bv false]
  | some g => .tup [rgraphV g, bv true]
structure RG.ok (g : RG) : Prop where
  fine : ∀ x ∈ g.ws, wordErr x = 0
  num : g.ws.length ≤ 300
  far : g.far.length = g.ws.length
  low : ∀ j, j < g.far.length → 0 ≤ el g.far j ∧ el g.far j ≤ j
theorem RG.ok.push {g : RG} (h : g.ok) {w : Word} {i : Nat} (hw : wordErr w = 0) (hn : g.ws.length < 300) (hi : i < g.ws.length) : RG.ok ⟨g.ws ++ [w], g.nx, g.far ++ [el g.far i + 1]⟩ := by
  have hf := h.far
  refine ⟨fun x hx => ?_, by simp; omega, by simp [hf], fun j hj => ?_⟩
  · rcases List.mem_append.1 hx with hx | hx
    · exact h.fine x hx
    · simp only [List.mem_singleton] at hx
      subst hx; exact hw
  · simp only [List.length_append, List.length_cons, List.length_nil] at hj
    dsimp only
    by_cases hj2 : j < g.far.length
    · rw [el_app_left _ _ hj2]; exact h.low j hj2
    · have : j = g.far.length := by omega
      subst this
      rw [el_app_mid]
      have := h.low i (by omega)
      omega
def rboxT (g : RG) : List (Nat × Option Box) := [(4, some ⟨3, [.agg [.seq 1 [] true, .seq 1 [] true, .seq 1 [] true]], 1, true⟩), (6, some ⟨3, [.agg [.sl 13 g.ws.length 0 g.ws.length, .seq 1 [] true, .sl 14 g.ws.length 0 g.far.length]], 1, true⟩), (13, some ⟨1, g.ws.map ints, g.ws.length, false⟩), (14, some ⟨1, g.far.map iv, g.ws.length, false⟩)]
def rboxF (g : RG) : List (Nat × Option Box) := [(4, some ⟨3, [.agg [.seq 1 [] true, .seq 1 [] true, .seq 1 [] true]], 1, true⟩), (6, some ⟨3, [.agg [.sl 13 g.ws.length 0 g.ws.length, .sl 79 g.nx.length 0 g.nx.length, .sl 14 g.ws.length 0 g.far.length]], 1, true⟩), (13, some ⟨1, g.ws.map ints, g.ws.length, false⟩), (14, some ⟨1, g.far.map iv, g.ws.length, false⟩), (79, some ⟨1, g.nx.map ints, g.nx.length, false⟩)]
attribute [local simp] rboxT rboxF
theorem reached_x (s : List Rule) (w : List Int) (h : Sys.small s) (hs : sysErr s = 0) (hw : wordErr w = 0) : CallP Try.prog 211 [rulesV s, ints w] (rreachV (rreachG s w)) := by
  refine CX211 (by simp) ?_
  generalize hR : rreachG s w = R
  unfold rreachG at hR
  have hok0 : RG.ok ⟨[w], [], [0]⟩ := ⟨by simpa using hw, by simp, rfl, fun j hj => by simp at hj; subst hj; simp [el]⟩
  generalize hg0 : (⟨[w], [], [0]⟩ : RG) = g0 at hR hok0
  have hg1 : g0.nx = [] := by rw [← hg0]
  have hg2 : g0.ws = [w] := by rw [← hg0]
  have hg3 : g0.far = [0] := by rw [← hg0]
  simp [A211]
  refine LoopK.by (ι := Bool × Nat × RG) (fun x => match x with
      | (true, i, g) => ⟨[(7, iv i), (6, .pt 6 1 0 0), (4, .pt 4 1 0 0), (0, rulesV s)], rboxT g⟩
      | (false, i, g) => ⟨[(7, iv i), (6, .pt 6 1 0 0), (4, .pt 4 1 0 0), (0, rulesV s)], rboxF g⟩)
    (fun x => 400 - x.2.1) (fun x => (x.1 = true → x.2.2.nx = []) ∧ x.2.2.ok ∧ x.2.1 ≤ x.2.2.ws.length ∧ x.2.2.nx.length = x.2.1 ∧ rcloseG s (301 - x.2.1) x.2.1 x.2.2 = R) (true, 0, g0) ⟨fun _ => hg1, hok0, by simp, by rw [hg1]; rfl, hR⟩ (by simp [hg2, hg3]) ?_
  intro ⟨kd, i, g⟩ Q' ⟨hkd, hok, hi, hnl, hc⟩ hq he hr
  dsimp only at hkd hok hi hnl hc
  have hnum := hok.num
  have hfl := hok.far
  obtain ⟨n, hn⟩ : ∃ n, 301 - i = n + 1 := ⟨300 - i, by omega⟩
  rw [hn, rcloseG] at hc
  by_cases hi2 : i < g.ws.length
  · rw [if_pos hi2] at hc
    have hui := hok.fine _ (el_mem_of g.ws i hi2)
    have hmc := rnext_c s (el g.ws i) h hs hui
    have hms : ∀ x ∈ nxtR s (el g.ws i), wordErr x = 0 := by
      intro x hx
      unfold nxtR at hx
      rw [(insA_spec _ [] List.Pairwise.nil).2] at hx
      simp only [List.not_mem_nil, false_or] at hx
      obtain ⟨m, hm, rfl⟩ := List.mem_map.1 hx
      exact moves_right hs hui hm
    have hml : (nxtR s (el g.ws i)).length ≤ 54 := by
      have h1 := insA_len ((movesM s (el g.ws i)).map (·.word)) []
      have h2 := movesM_len hs hui
      simp at h1
      unfold nxtR; omega
    have hnr : nxR s (el g.ws i) = nxtR s (el g.ws i) := rfl
    rw [hnr] at hc
    generalize nxtR s (el g.ws i) = ms at hmc hms hml hc
    generalize hRA : raddG (el g.far i + 1) g.ws g.far [] ms = RA at hc
    cases kd
    · try simp 
      refine CondK.intro (fun h1 => ?_) (fun h1 => ?_)
      · try simp 
        try simp [hi2]
        repeat' (first
          | (refine CallX.pure (hmc) (by simp) (by simp) ?_; try simp [hi2])
          | (refine CallK.intro (hmc) (by simp) (by simp) ?_; try simp [hi2])
          | (refine CallG.intro (fun _ => hmc) (by simp) (by simp) ?_; try simp [hi2])
          | ((with_reducible refine PreK.intro ?_ ?_); (next => (first | omega | (intros; first | omega | (refine ⟨by omega, ?_⟩; repeat (first | assumption | constructor)) | assumption))); intro _; try simp [hi2])
          | fail)
        refine LoopK.by (ι := Nat × RG × List Int) (fun x => ⟨[(10, iv x.1), (9, wordsV ms), (8, .sl 8 (x.2.2.length + 1) 0 x.2.2.length), (7, iv i), (6, .pt 6 1 0 0), (4, .pt 4 1 0 0), (0, rulesV s)], (8, some ⟨1, x.2.2.map iv, x.2.2.length + 1, false⟩) :: rboxF x.2.1⟩)
          (fun x => ms.length - x.1) (fun x => x.1 ≤ ms.length ∧ x.2.2.length = x.1 ∧ x.2.1.ok ∧ x.2.1.nx = g.nx ∧ i < x.2.1.ws.length ∧ el x.2.1.far i = el g.far i ∧ raddG (el g.far i + 1) x.2.1.ws x.2.1.far x.2.2 (ms.drop x.1) = RA) (0, g, []) ⟨by simp, rfl, hok, rfl, hi2, rfl, hRA⟩ (by simp) ?_
        intro ⟨k, g', l⟩ Q'' ⟨hk, hkl, hok', hnx, hi3, hfi, ha⟩ hq' he' hr'
        dsimp only at hk hkl hok' hnx hi3 hfi ha
        have hnum' := hok'.num
        have hfl' := hok'.far
        have hfi3 : i < g'.far.length := by omega
        try simp 
        refine CondK.intro (fun h2 => ?_) (fun h2 => ?_)
        · simp at h2
          have h8 := hms _ (el_mem_of ms k h2)
          rw [drop_cons ms k h2, raddG] at ha
          have hfc := find_c g'.ws (el ms k) (by omega) (fun x hx => by have := (wordErr_zero (hok'.fine x hx)).1; omega)
          have hfa := idxG_lt (fun x => decide (x = el ms k)) g'.ws 0
          have hfr : findI g'.ws (el ms k) = idxG (fun x => decide (x = el ms k)) 0 g'.ws := rfl
          have hfb : findI g'.ws (el ms k) = -1 ∨ (0 ≤ findI g'.ws (el ms k) ∧ findI g'.ws (el ms k) < g'.ws.length) := by
            rcases hfa with e | ⟨j, j1, j2, _⟩
            · exact .inl (hfr.trans e)
            · right; rw [hfr, j2]; omega
          try simp [h2]
          repeat (refine PreK.intro (by first | omega | (intros; first | omega | (refine ⟨by omega, ?_⟩; simp_all; done) | (simp_all; done) | (simp_all; omega))) fun _ => ?_; (try simp [h2]))
          refine CallK.intro (by simpa using hfc) (by simp) (by simp) ?_
          try simp [h2]
          repeat (refine PreK.intro (by first | omega | (intros; first | omega | (refine ⟨by omega, ?_⟩; simp_all; done) | (simp_all; done) | (simp_all; omega))) fun _ => ?_; (try simp [h2]))
          refine CondK.intro (fun h3 => ?_) (fun h3 => ?_)
          · simp at h3
            rw [if_pos h3] at ha
            try simp 
            refine CondK.intro (fun h4 => ?_) (fun h4 => ?_)
            · simp at h4
              rw [if_pos (by omega)] at ha
              subst ha
              try simp 
              apply hr'
              apply hr
              simp [rreachV, rzeroV, ← hc]
            · simp at h4
              rw [if_neg (by omega)] at ha
              have hfi2 := hok'.low i (by omega)
              try simp [h2, hi3, hfi3]
              repeat (refine PreK.intro (by first | omega | (intros; first | omega | (refine ⟨by omega, ?_⟩; simp_all; done) | (simp_all; done) | (simp_all; omega))) fun _ => ?_; (try simp [h2, hi3, hfi3]))
              try simp [h2, hi3, hfi3]
              repeat (refine PreK.intro (by first | omega | (intros; first | omega | (refine ⟨by omega, ?_⟩; simp_all; done) | (simp_all; done) | (simp_all; omega))) fun _ => ?_; (try simp [h2, hi3, hfi3]))
              try simp [h2, hi3, hfi3]
              repeat (refine PreK.intro (by first | omega | (intros; first | omega | (refine ⟨by omega, ?_⟩; simp_all; done) | (simp_all; done) | (simp_all; omega))) fun _ => ?_; (try simp [h2, hi3, hfi3]))
              refine hq' (k + 1, ⟨g'.ws ++ [el ms k], g'.nx, g'.far ++ [el g'.far i + 1]⟩, l ++ [(g'.ws.length : Int)]) _ ⟨by dsimp only; omega, by simp [hkl], hok'.push h8 (by omega) (by omega), hnx, by simp; omega, ?_, ?_⟩ (by dsimp only; omega) (by simp)
              · dsimp only
                rw [el_app_left _ _ (by omega)]
                exact hfi
              · dsimp only
                rw [hfi]; exact ha
          · simp at h3
            rw [if_neg (by omega)] at ha
            try simp 
            repeat (refine PreK.intro (by first | omega | (intros; first | omega | (refine ⟨by omega, ?_⟩; simp_all; done) | (simp_all; done) | (simp_all; omega))) fun _ => ?_; (try simp ))
            try simp 
            repeat (refine PreK.intro (by first | omega | (intros; first | omega | (refine ⟨by omega, ?_⟩; simp_all; done) | (simp_all; done) | (simp_all; omega))) fun _ => ?_; (try simp ))
            refine hq' (k + 1, g', l ++ [findI g'.ws (el ms k)]) _ ⟨by dsimp only; omega, by simp [hkl], hok', hnx, hi3, hfi, ha⟩ (by dsimp only; omega) (by simp)
        · simp at h2
          rw [List.drop_eq_nil_of_le (by omega), raddG] at ha
          subst ha
          have hnn : g'.nx.length = i := by rw [hnx]; exact hnl
          try simp 
          apply he'
          try simp 
          repeat' (first
            | ((with_reducible refine PreK.intro ?_ ?_); (next => (first | omega | (intros; first | omega | (refine ⟨by omega, ?_⟩; repeat (first | assumption | constructor)) | assumption))); intro _; try simp )
            | fail)
          refine hq (false, i + 1, ⟨g'.ws, g'.nx ++ [l], g'.far⟩) _ ⟨fun e => (by cases e), ⟨hok'.fine, hok'.num, hok'.far, hok'.low⟩, hi3, by simp [hnn], by dsimp only; rw [show 301 - (i + 1) = n by omega, hnx]; exact hc⟩ (by dsimp only; omega) (by simp)
      · simp at h1
        omega
    · have hnx0 := hkd rfl
      try simp 
      refine CondK.intro (fun h1 => ?_) (fun h1 => ?_)
      · try simp 
        try simp [hi2]
        repeat' (first
          | (refine CallX.pure (hmc) (by simp) (by simp) ?_; try simp [hi2])
          | (refine CallK.intro (hmc) (by simp) (by simp) ?_; try simp [hi2])
          | (refine CallG.intro (fun _ => hmc) (by simp) (by simp) ?_; try simp [hi2])
          | ((with_reducible refine PreK.intro ?_ ?_); (next => (first | omega | (intros; first | omega | (refine ⟨by omega, ?_⟩; repeat (first | assumption | constructor)) | assumption))); intro _; try simp [hi2])
          | fail)
        refine LoopK.by (ι := Nat × RG × List Int) (fun x => ⟨[(10, iv x.1), (9, wordsV ms), (8, .sl 8 (x.2.2.length + 1) 0 x.2.2.length), (7, iv i), (6, .pt 6 1 0 0), (4, .pt 4 1 0 0), (0, rulesV s)], (8, some ⟨1, x.2.2.map iv, x.2.2.length + 1, false⟩) :: rboxT x.2.1⟩)
          (fun x => ms.length - x.1) (fun x => x.1 ≤ ms.length ∧ x.2.2.length = x.1 ∧ x.2.1.ok ∧ x.2.1.nx = g.nx ∧ i < x.2.1.ws.length ∧ el x.2.1.far i = el g.far i ∧ raddG (el g.far i + 1) x.2.1.ws x.2.1.far x.2.2 (ms.drop x.1) = RA) (0, g, []) ⟨by simp, rfl, hok, rfl, hi2, rfl, hRA⟩ (by simp) ?_
        intro ⟨k, g', l⟩ Q'' ⟨hk, hkl, hok', hnx, hi3, hfi, ha⟩ hq' he' hr'
        dsimp only at hk hkl hok' hnx hi3 hfi ha
        have hnum' := hok'.num
        have hfl' := hok'.far
        have hfi3 : i < g'.far.length := by omega
        try simp 
        refine CondK.intro (fun h2 => ?_) (fun h2 => ?_)
        · simp at h2
          have h8 := hms _ (el_mem_of ms k h2)
          rw [drop_cons ms k h2, raddG] at ha
          have hfc := find_c g'.ws (el ms k) (by omega) (fun x hx => by have := (wordErr_zero (hok'.fine x hx)).1; omega)
          have hfa := idxG_lt (fun x => decide (x = el ms k)) g'.ws 0
          have hfr : findI g'.ws (el ms k) = idxG (fun x => decide (x = el ms k)) 0 g'.ws := rfl
          have hfb : findI g'.ws (el ms k) = -1 ∨ (0 ≤ findI g'.ws (el ms k) ∧ findI g'.ws (el ms k) < g'.ws.length) := by
            rcases hfa with e | ⟨j, j1, j2, _⟩
            · exact .inl (hfr.trans e)
            · right; rw [hfr, j2]; omega
          try simp [h2]
          repeat (refine PreK.intro (by first | omega | (intros; first | omega | (refine ⟨by omega, ?_⟩; simp_all; done) | (simp_all; done) | (simp_all; omega))) fun _ => ?_; (try simp [h2]))
          refine CallK.intro (by simpa using hfc) (by simp) (by simp) ?_
          try simp [h2]
          repeat (refine PreK.intro (by first | omega | (intros; first | omega | (refine ⟨by omega, ?_⟩; simp_all; done) | (simp_all; done) | (simp_all; omega))) fun _ => ?_; (try simp [h2]))
          refine CondK.intro (fun h3 => ?_) (fun h3 => ?_)
          · simp at h3
            rw [if_pos h3] at ha
            try simp 
            refine CondK.intro (fun h4 => ?_) (fun h4 => ?_)
            · simp at h4
              rw [if_pos (by omega)] at ha
              subst ha
              try simp 
              apply hr'
              apply hr
              simp [rreachV, rzeroV, ← hc]
            · simp at h4
              rw [if_neg (by omega)] at ha
              have hfi2 := hok'.low i (by omega)
              try simp [h2, hi3, hfi3]
              repeat (refine PreK.intro (by first | omega | (intros; first | omega | (refine ⟨by omega, ?_⟩; simp_all; done) | (simp_all; done) | (simp_all; omega))) fun _ => ?_; (try simp [h2, hi3, hfi3]))
              try simp [h2, hi3, hfi3]
              repeat (refine PreK.intro (by first | omega | (intros; first | omega | (refine ⟨by omega, ?_⟩; simp_all; done) | (simp_all; done) | (simp_all; omega))) fun _ => ?_; (try simp [h2, hi3, hfi3]))
              try simp [h2, hi3, hfi3]
              repeat (refine PreK.intro (by first | omega | (intros; first | omega | (refine ⟨by omega, ?_⟩; simp_all; done) | (simp_all; done) | (simp_all; omega))) fun _ => ?_; (try simp [h2, hi3, hfi3]))
              refine hq' (k + 1, ⟨g'.ws ++ [el ms k], g'.nx, g'.far ++ [el g'.far i + 1]⟩, l ++ [(g'.ws.length : Int)]) _ ⟨by dsimp only; omega, by simp [hkl], hok'.push h8 (by omega) (by omega), hnx, by simp; omega, ?_, ?_⟩ (by dsimp only; omega) (by simp)
              · dsimp only
                rw [el_app_left _ _ (by omega)]
                exact hfi
              · dsimp only
                rw [hfi]; exact ha
          · simp at h3
            rw [if_neg (by omega)] at ha
            try simp 
            repeat (refine PreK.intro (by first | omega | (intros; first | omega | (refine ⟨by omega, ?_⟩; simp_all; done) | (simp_all; done) | (simp_all; omega))) fun _ => ?_; (try simp ))
            try simp 
            repeat (refine PreK.intro (by first | omega | (intros; first | omega | (refine ⟨by omega, ?_⟩; simp_all; done) | (simp_all; done) | (simp_all; omega))) fun _ => ?_; (try simp ))
            refine hq' (k + 1, g', l ++ [findI g'.ws (el ms k)]) _ ⟨by dsimp only; omega, by simp [hkl], hok', hnx, hi3, hfi, ha⟩ (by dsimp only; omega) (by simp)
        · simp at h2
          rw [List.drop_eq_nil_of_le (by omega), raddG] at ha
          subst ha
          have hnn : g'.nx = [] := by rw [hnx]; exact hnx0
          have hi0 : i = 0 := by rw [← hnl, hnx0]; rfl
          try simp 
          apply he'
          try simp 
          repeat' (first
            | ((with_reducible refine PreK.intro ?_ ?_); (next => (first | omega | (intros; first | omega | (refine ⟨by omega, ?_⟩; repeat (first | assumption | constructor)) | assumption))); intro _; try simp )
            | fail)
          refine hq (false, i + 1, ⟨g'.ws, g'.nx ++ [l], g'.far⟩) _ ⟨fun e => (by cases e), ⟨hok'.fine, hok'.num, hok'.far, hok'.low⟩, hi3, by simp [hnn, hi0], by dsimp only; rw [show 301 - (i + 1) = n by omega, hnx]; exact hc⟩ (by dsimp only; omega) (by simp [hnn])
      · simp at h1
        omega
  · rw [if_neg hi2] at hc
    cases kd
    · try simp 
      refine CondK.intro (fun h1 => ?_) (fun h1 => ?_)
      · simp at h1
        omega
      · try simp 
        apply he
        try simp 
        simp [rreachV, rgraphV, ← hc]
    · have hnx0 := hkd rfl
      try simp 
      refine CondK.intro (fun h1 => ?_) (fun h1 => ?_)
      · simp at h1
        omega
      · try simp 
        apply he
        try simp 
        simp [rreachV, rgraphV, ← hc, hnx0]
end Go.Proofs.Ytaooenmkofjafaa
end

section
/- Contracts: the reference's Reach; the statement FeedReaches. -/
namespace Go.Proofs.Ytaooenmkofjafaa
open Go.Abs Go
set_option maxRecDepth 20000
set_option maxHeartbeats 2000000
attribute [local irreducible] PreK CondK CallK CallG CallX LoopK
attribute [local simp] avsEq avEq akind teq vkind vEq

theorem rcloseG_ok {s : List Rule} (hs : sysErr s = 0) : ∀ {n i : Nat} {g g' : RG}, g.ok → i ≤ g.ws.length → rcloseG s n i g = some g' → g'.ok
  | 0, i, g, g', h, _, e => by
    simp only [rcloseG, Option.some.injEq] at e
    subst e; exact h
  | n + 1, i, g, g', h, hi, e => by
    rw [rcloseG] at e
    split at e
    · rename_i hi2
      have hu := h.fine _ (el_mem_of g.ws i hi2)
      have hm : ∀ x ∈ nxR s (el g.ws i), wordErr x = 0 := by
        intro x hx
        obtain ⟨m, hm, rfl⟩ := List.mem_map.1 (mem_nxR.1 hx)
        exact moves_right hs hu hm
      have key : ∀ (l : List Word) (ws : List Word) (fr ls : List Int) (nx : List (List Int)) (q : List Word × List Int × List Int), (∀ x ∈ l, wordErr x = 0) → RG.ok ⟨ws, nx, fr⟩ → i < ws.length → el fr i = el g.far i →
          raddG (el g.far i + 1) ws fr ls l = some q → RG.ok ⟨q.1, nx, q.2.1⟩ ∧ i < q.1.length := by
        intro l
        induction l with
        | nil =>
          intro ws fr ls nx q _ hok hi3 _ hq
          simp only [raddG, Option.some.injEq] at hq
          subst hq; exact ⟨hok, hi3⟩
        | cons v l ih =>
          intro ws fr ls nx q hl hok hi3 hfi hq
          rw [raddG] at hq
          split at hq
          · split at hq
            · cases hq
            · rename_i h3
              have hnum := hok.num
              dsimp only at hnum
              have hp := hok.push (w := v) (i := i) (hl v (by simp)) (by dsimp only; omega) hi3
              dsimp only at hp
              rw [hfi] at hp
              refine ih _ _ _ nx q (fun x hx => hl x (by simp [hx])) hp (by simp; omega) ?_ hq
              rw [el_app_left _ _ (by have := hok.far; dsimp only at this; omega)]
              exact hfi
          · exact ih _ _ _ nx q (fun x hx => hl x (by simp [hx])) hok hi3 hfi hq
      cases ha : raddG (el g.far i + 1) g.ws g.far [] (nxR s (el g.ws i)) with
      | none => rw [ha] at e; cases e
      | some q =>
        obtain ⟨q1, q2, q3⟩ := q
        rw [ha] at e
        obtain ⟨k1, k2⟩ := key _ _ _ _ g.nx _ hm ⟨h.fine, h.num, h.far, h.low⟩ hi2 rfl ha
        exact rcloseG_ok (g := ⟨q1, g.nx ++ [q3], q2⟩) hs ⟨k1.fine, k1.num, k1.far, k1.low⟩ (by dsimp only at k2 ⊢; omega) e
    · simp only [Option.some.injEq] at e
      subst e; exact h
theorem rreachG_ok {s : List Rule} {w : Word} {g : RG} (h : swErr s w = 0) (e : rreachG s w = some g) : g.ok := by
  refine rcloseG_ok (swErr_zero h).1 ⟨by simpa using (swErr_zero h).2, by simp, rfl, fun j hj => ?_⟩ (Nat.zero_le _) e
  simp at hj
  subst hj
  simp [el]
def rgraphedV (s : List Rule) (w : Word) : AV := if swErr s w ≠ 0 then .tup [rzeroV, iv (swErr s w)] else match rreachG s w with
  | none => .tup [rzeroV, iv 3]
  | some g => .tup [rgraphV g, iv 0]
theorem graphed_c (s : List Rule) (w : List Int) (h : Sys.small s) (hw : w.length ≤ 1000) : CallP Try.prog 159 [rulesV s, ints w] (rgraphedV s w) := by
  refine C159 (by simp) ?_
  have hck := rworded_c s w [] h hw (by simp)
  rw [check_nil] at hck
  simp [A159]
  try simp 
  repeat' (first
    | (refine CallX.pure (hck) (by simp) (by simp) ?_; try simp )
    | (refine CallK.intro (hck) (by simp) (by simp) ?_; try simp )
    | (refine CallG.intro (fun _ => hck) (by simp) (by simp) ?_; try simp )
    | ((with_reducible refine PreK.intro ?_ ?_); (next => (first | omega | (intros; first | omega | (refine ⟨by omega, ?_⟩; repeat (first | assumption | constructor)) | assumption))); intro _; try simp )
    | fail)
  refine CondK.intro (fun h1 => ?_) (fun h1 => ?_)
  · simp at h1
    simp [rgraphedV, h1, rzeroV]
  · simp at h1
    have hx := reached_x s w h (swErr_zero h1).1 (swErr_zero h1).2
    have e : rgraphedV s w = match rreachG s w with | none => .tup [rzeroV, iv 3] | some g => .tup [rgraphV g, iv 0] := by simp [rgraphedV, h1]
    rw [e]
    cases hg : rreachG s w with
    | none =>
      rw [hg] at hx
      simp only [rreachV, rzeroV] at hx ⊢
      try simp 
      repeat' (first
        | (refine CallX.pure (hx) (by simp) (by simp) ?_; try simp )
        | (refine CallK.intro (hx) (by simp) (by simp) ?_; try simp )
        | (refine CallG.intro (fun _ => hx) (by simp) (by simp) ?_; try simp )
        | ((with_reducible refine PreK.intro ?_ ?_); (next => (first | omega | (intros; first | omega | (refine ⟨by omega, ?_⟩; repeat (first | assumption | constructor)) | assumption))); intro _; try simp )
        | fail)
      refine CondK.intro (fun h2 => ?_) (fun h2 => ?_)
      · try simp 
        repeat' (first
          | ((with_reducible refine PreK.intro ?_ ?_); (next => (first | omega | (intros; first | omega | (refine ⟨by omega, ?_⟩; repeat (first | assumption | constructor)) | assumption))); intro _; try simp )
          | fail)
      · simp at h2
    | some g =>
      rw [hg] at hx
      simp only [rreachV, rgraphV] at hx ⊢
      try simp 
      repeat' (first
        | (refine CallX.pure (hx) (by simp) (by simp) ?_; try simp )
        | (refine CallK.intro (hx) (by simp) (by simp) ?_; try simp )
        | (refine CallG.intro (fun _ => hx) (by simp) (by simp) ?_; try simp )
        | ((with_reducible refine PreK.intro ?_ ?_); (next => (first | omega | (intros; first | omega | (refine ⟨by omega, ?_⟩; repeat (first | assumption | constructor)) | assumption))); intro _; try simp )
        | fail)
      refine CondK.intro (fun h2 => ?_) (fun h2 => ?_)
      · simp at h2
      · try simp 
        repeat' (first
          | ((with_reducible refine PreK.intro ?_ ?_); (next => (first | omega | (intros; first | omega | (refine ⟨by omega, ?_⟩; repeat (first | assumption | constructor)) | assumption))); intro _; try simp )
          | fail)
def ReachRef (s : List Rule) (w : Word) : List Word × Int := if swErr s w ≠ 0 then ([], swErr s w) else match rreachG s w with
  | none => ([], 3)
  | some g => (insA [] g.ws, 0)
theorem rReach_zero (s : List Rule) (w : List Int) (e : Int) (hg : CallP Try.prog 159 [rulesV s, ints w] (.tup [rzeroV, iv e])) : CallP Try.prog 75 [rulesV s, ints w] (.tup [wordsV [], iv e]) := by
  refine C75 (by simp) ?_
  simp only [rzeroV] at hg
  simp [A75]
  try simp 
  repeat' (first
    | (refine CallX.pure (hg) (by simp) (by simp) ?_; try simp )
    | (refine CallK.intro (hg) (by simp) (by simp) ?_; try simp )
    | (refine CallG.intro (fun _ => hg) (by simp) (by simp) ?_; try simp )
    | ((with_reducible refine PreK.intro ?_ ?_); (next => (first | omega | (intros; first | omega | (refine ⟨by omega, ?_⟩; repeat (first | assumption | constructor)) | assumption))); intro _; try simp )
    | fail)
  refine LoopK.frz 8 (b := ⟨1, [], 1, false⟩) (by simp) (by simp) ?_
  refine LoopK.by (ι := Unit) (fun _ => ⟨[(9, iv 0), (8, wordsV []), (7, iv e), (6, .pt 6 1 0 0)], [(6, some ⟨3, [.agg [.seq 1 [] false, .seq 1 [] false, .seq 1 [] false]], 1, true⟩)]⟩) (fun _ => 0) (fun _ => True) () trivial (by simp) ?_
  intro _ Q' _ hq he hr
  try simp 
  refine CondK.intro (fun h1 => ?_) (fun h1 => ?_)
  · simp at h1
  · try simp 
    apply he
    try simp 
    repeat' (first
      | ((with_reducible refine PreK.intro ?_ ?_); (next => (first | omega | (intros; first | omega | (refine ⟨by omega, ?_⟩; repeat (first | assumption | constructor)) | assumption))); intro _; try simp )
      | fail)
theorem rReach_some (s : List Rule) (w : List Int) (g : RG) (hok : g.ok) (hg : CallP Try.prog 159 [rulesV s, ints w] (.tup [rgraphV g, iv 0])) : CallP Try.prog 75 [rulesV s, ints w] (.tup [wordsV (insA [] g.ws), iv 0]) := by
  refine C75 (by simp) ?_
  have hnum := hok.num
  have hws : ∀ x ∈ g.ws, x.length ≤ 8 := fun x hx => (wordErr_zero (hok.fine x hx)).1
  generalize hR : insA [] g.ws = R
  simp only [rgraphV] at hg
  simp [A75]
  try simp 
  repeat' (first
    | (refine CallX.pure (hg) (by simp) (by simp) ?_; try simp )
    | (refine CallK.intro (hg) (by simp) (by simp) ?_; try simp )
    | (refine CallG.intro (fun _ => hg) (by simp) (by simp) ?_; try simp )
    | ((with_reducible refine PreK.intro ?_ ?_); (next => (first | omega | (intros; first | omega | (refine ⟨by omega, ?_⟩; repeat (first | assumption | constructor)) | assumption))); intro _; try simp )
    | fail)
  refine LoopK.frz 8 (b := ⟨1, [], 1, false⟩) (by simp) (by simp) ?_
  refine LoopK.by (ι := Nat × List Word) (fun x => ⟨[(9, iv x.1), (8, wordsV x.2), (7, iv 0), (6, .pt 6 1 0 0)], [(6, some ⟨3, [rgraphV g], 1, true⟩)]⟩) (fun x => g.ws.length - x.1)
    (fun x => x.1 ≤ g.ws.length ∧ x.2.length ≤ x.1 ∧ (∀ y ∈ x.2, y.length ≤ 8) ∧ insA x.2 (g.ws.drop x.1) = R) (0, []) (by simpa using hR) (by simp [rgraphV]) ?_
  intro ⟨i, acc⟩ Q' ⟨hi, ha, hy, hc⟩ hq he hr
  dsimp only at hi ha hy hc
  simp only [rgraphV]
  try simp 
  refine CondK.intro (fun h1 => ?_) (fun h1 => ?_)
  · simp at h1
    have h8 := hws _ (el_mem_of g.ws i h1)
    rw [drop_cons g.ws i h1, insA] at hc
    try simp [h1]
    repeat' (first
      | (refine CallX.pure (insert_c acc (el g.ws i) (by omega) (fun x hx => Nat.le_trans (hy x hx) (by omega)) (by omega)) (by simp) (by simp) ?_; try simp [h1])
      | (refine CallK.intro (insert_c acc (el g.ws i) (by omega) (fun x hx => Nat.le_trans (hy x hx) (by omega)) (by omega)) (by simp) (by simp) ?_; try simp [h1])
      | (refine CallG.intro (fun _ => insert_c acc (el g.ws i) (by omega) (fun x hx => Nat.le_trans (hy x hx) (by omega)) (by omega)) (by simp) (by simp) ?_; try simp [h1])
      | ((with_reducible refine PreK.intro ?_ ?_); (next => (first | omega | (intros; first | omega | (refine ⟨by omega, ?_⟩; repeat (first | assumption | constructor)) | assumption))); intro _; try simp [h1])
      | fail)
    refine hq (i + 1, insM (el g.ws i) acc) _ ⟨by dsimp only; omega, ?_, insM_words _ 8 h8 hy, hc⟩ (by dsimp only; omega) (by simp [rgraphV])
    have := insM_len (el g.ws i) acc
    dsimp only; omega
  · simp at h1
    rw [List.drop_eq_nil_of_le (by omega), insA] at hc
    try simp 
    apply he
    try simp 
    repeat' (first
      | ((with_reducible refine PreK.intro ?_ ?_); (next => (first | omega | (intros; first | omega | (refine ⟨by omega, ?_⟩; repeat (first | assumption | constructor)) | assumption))); intro _; try simp )
      | fail)
    simp [← hc]
theorem rReach_c (s : List Rule) (w : List Int) (h : Sys.small s) (hw : w.length ≤ 1000) : CallP Try.prog 75 [rulesV s, ints w] (.tup [wordsV (ReachRef s w).1, iv (ReachRef s w).2]) := by
  have hgc := graphed_c s w h hw
  unfold rgraphedV at hgc
  unfold ReachRef
  by_cases h0 : swErr s w = 0
  · simp only [h0, ne_eq, not_true_eq_false, if_false] at hgc ⊢
    cases hg : rreachG s w with
    | none =>
      rw [hg] at hgc
      exact rReach_zero s w 3 hgc
    | some g =>
      rw [hg] at hgc
      exact rReach_some s w g (rreachG_ok h0 hg) hgc
  · simp only [h0, ne_eq, not_false_eq_true, if_true] at hgc ⊢
    exact rReach_zero s w _ hgc
theorem Reach_same (s : List Rule) (w : Word) : ReachE s w = ReachRef s w := by
  unfold ReachE ReachRef
  have h := graphs_same s w
  cases hg : reachG s w with
  | none =>
    cases hr : rreachG s w with
    | none => rfl
    | some r => rw [hg, hr] at h; exact h.elim
  | some g =>
    cases hr : rreachG s w with
    | none => rw [hg, hr] at h; exact h.elim
    | some r =>
      rw [hg, hr] at h
      obtain ⟨ws, rs, h1, h2, _, _, h5⟩ := h
      dsimp only
      rw [uniq_insA (m := r.ws) (fun z => ?_)]
      rw [h1.words, h2.words, List.mem_map, List.mem_map]
      exact ⟨fun ⟨y, hy, e⟩ => ⟨y, (h5 y).1 hy, e⟩, fun ⟨y, hy, e⟩ => ⟨y, (h5 y).2 hy, e⟩⟩
theorem ReachE_small {s : List Rule} {w : Word} : (ReachE s w).1.length ≤ 1000 ∧ ∀ x ∈ (ReachE s w).1, x.length ≤ 1000 := by
  unfold ReachE
  by_cases h0 : swErr s w = 0
  · simp only [h0, ne_eq, not_true_eq_false, if_false]
    cases hg : reachG s w with
    | none => simp
    | some g =>
      have hok := reachG_ok h0 hg
      have hnum := hok.num
      have h1 := uniq_len g.ws
      dsimp only
      refine ⟨by omega, fun x hx => ?_⟩
      have := (wordErr_zero (hok.fine x (((uniq_sorted g.ws).2 x).1 hx))).1
      omega
  · simp [h0]
theorem ReachE_self {s : List Rule} {w : Word} (h : (ReachE s w).2 = 0) : w ∈ (ReachE s w).1 := by
  unfold ReachE at h ⊢
  by_cases h0 : swErr s w = 0
  · simp only [h0, ne_eq, not_true_eq_false, if_false] at h ⊢
    have hG := reachG_F s w
    cases hg : reachG s w with
    | none => rw [hg] at h; cases h
    | some g =>
      rw [hg] at hG
      cases hc : closeM (nxP s) w with
      | none => rw [hc] at hG; exact hG.elim
      | some ws =>
        rw [hc] at hG
        dsimp only at hG ⊢
        rw [(uniq_sorted g.ws).2, hG.words]
        obtain ⟨l, e⟩ := (closeM_some hc).first
        rw [e]; simp
  · simp only [h0, ne_eq, not_false_eq_true, if_true] at h
def partB (a b : List Word) : Bool := a.all fun x => b.any fun y => decide (x = y)
theorem part_c (a b : List Word) (ha : a.length ≤ 1000) (hb : b.length ≤ 1000) (hwa : ∀ x ∈ a, x.length ≤ 1000) : CallP Try.prog 77 [wordsV a, wordsV b] (bv (partB a b)) := by
  refine C77 (by simp) ?_
  generalize hR : partB a b = R
  unfold partB at hR
  simp [A77]
  refine LoopK.by (fun i : Nat => ⟨[(5, iv i), (0, wordsV a), (1, wordsV b)], []⟩) (fun i => a.length - i) (fun i => i ≤ a.length ∧ ((a.drop i).all fun x => b.any fun y => decide (x = y)) = R) 0 (by simpa using hR) (by simp) ?_
  intro i Q' ⟨hi, hc⟩ hq he hr
  try simp 
  refine CondK.intro (fun h1 => ?_) (fun h1 => ?_)
  · simp at h1
    have hxl := hwa _ (el_mem_of a i h1)
    rw [drop_cons a i h1, List.all_cons] at hc
    generalize hB : (b.any fun y => decide (el a i = y)) = B at hc
    try simp 
    refine LoopK.by (ι := Nat × Bool) (fun x => ⟨[(7, iv x.1), (6, bv x.2), (5, iv i), (0, wordsV a), (1, wordsV b)], []⟩) (fun x => b.length - x.1) (fun x => x.1 ≤ b.length ∧ (x.2 || ((b.drop x.1).any fun y => decide (el a i = y))) = B) (0, false) (by simpa using hB) (by simp) ?_
    intro ⟨k, d⟩ Q'' ⟨hk, hd⟩ hq' he' hr'
    dsimp only at hk hd
    try simp 
    refine CondK.intro (fun h2 => ?_) (fun h2 => ?_)
    · simp at h2
      rw [drop_cons b k h2, List.any_cons] at hd
      cases d
      · try simp [h1, h2]
        repeat (refine PreK.intro (by first | omega | (intros; first | omega | (refine ⟨by omega, ?_⟩; simp_all; done) | (simp_all; done) | (simp_all; omega))) fun _ => ?_; (try simp [h1, h2]))
        refine CallG.intro (r := bv (decide (el a i = el b k))) (fun _ => by simpa [h1, h2] using same1_c (el a i) (el b k) (big_of hxl)) (by simp) (by simp) ?_
        try simp 
        try simp 
        repeat (refine PreK.intro (by first | omega | (intros; first | omega | (refine ⟨by omega, ?_⟩; simp_all; done) | (simp_all; done) | (simp_all; omega))) fun _ => ?_; (try simp ))
        exact hq' (k + 1, decide (el a i = el b k)) _ ⟨by dsimp only; omega, by simpa using hd⟩ (by dsimp only; omega) (by simp)
      · try simp [h1, h2]
        repeat (refine PreK.intro (by first | omega | (intros; first | omega | (refine ⟨by omega, ?_⟩; simp_all; done) | (simp_all; done) | (simp_all; omega))) fun _ => ?_; (try simp [h1, h2]))
        refine CallG.intro (r := bv true) (fun hh => by cases hh) (by simp) (by simp) ?_
        try simp 
        try simp 
        repeat (refine PreK.intro (by first | omega | (intros; first | omega | (refine ⟨by omega, ?_⟩; simp_all; done) | (simp_all; done) | (simp_all; omega))) fun _ => ?_; (try simp ))
        exact hq' (k + 1, true) _ ⟨by dsimp only; omega, by simpa using hd⟩ (by dsimp only; omega) (by simp)
    · simp at h2
      rw [List.drop_eq_nil_of_le (by omega)] at hd
      simp at hd
      subst hd
      try simp 
      apply he'
      try simp 
      repeat' (first
        | ((with_reducible refine PreK.intro ?_ ?_); (next => (first | omega | (intros; first | omega | (refine ⟨by omega, ?_⟩; repeat (first | assumption | constructor)) | assumption))); intro _; try simp )
        | fail)
      refine CondK.intro (fun h3 => ?_) (fun h3 => ?_)
      · simp at h3
        rw [h3] at hc
        simp at hc
        try simp 
        apply hr
        simp [← hc]
      · simp at h3
        rw [h3] at hc
        simp only [Bool.true_and] at hc
        try simp 
        repeat' (first
          | ((with_reducible refine PreK.intro ?_ ?_); (next => (first | omega | (intros; first | omega | (refine ⟨by omega, ?_⟩; repeat (first | assumption | constructor)) | assumption))); intro _; try simp )
          | fail)
        exact hq (i + 1) _ ⟨by omega, hc⟩ (by omega) (by simp)
  · simp at h1
    rw [List.drop_eq_nil_of_le (by omega)] at hc
    simp at hc
    try simp 
    apply he
    simp [← hc]
theorem lawFeedReaches_c (s : List Rule) (w : List Int) (hb : s.length ≤ big) (hwb : w.length ≤ big) : CallP Try.prog 15 [rulesV s, ints w] (bv true) := by
  refine C15 (by simp) ?_
  simp [A15]
  refine CallX.pure (by simpa using long3_c s hb) (by simp) (by simp) ?_
  try simp 
  cases hl : longS s
  · have hs := longS_small hl
    by_cases h2 : 100 < w.length
    · try simp 
      repeat' (first
        | (refine CallX.pure (large3_c w) (by simp) (by simp) ?_; try simp )
        | (refine CallK.intro (large3_c w) (by simp) (by simp) ?_; try simp )
        | (refine CallG.intro (fun _ => large3_c w) (by simp) (by simp) ?_; try simp )
        | ((with_reducible refine PreK.intro ?_ ?_); (next => (first | omega | (intros; first | omega | (refine ⟨by omega, ?_⟩; repeat (first | assumption | constructor)) | assumption))); intro _; try simp )
        | fail)
      refine CondK.intro (fun h3 => ?_) (fun h3 => ?_)
      · try simp 
        repeat' (first
          | (refine CallX.pure (known_c) (by simp) (by simp) ?_; try simp )
          | (refine CallK.intro (known_c) (by simp) (by simp) ?_; try simp )
          | (refine CallG.intro (fun _ => known_c) (by simp) (by simp) ?_; try simp )
          | ((with_reducible refine PreK.intro ?_ ?_); (next => (first | omega | (intros; first | omega | (refine ⟨by omega, ?_⟩; repeat (first | assumption | constructor)) | assumption))); intro _; try simp )
          | fail)
      · simp at h3; omega
    · try simp 
      repeat' (first
        | (refine CallX.pure (large3_c w) (by simp) (by simp) ?_; try simp )
        | (refine CallK.intro (large3_c w) (by simp) (by simp) ?_; try simp )
        | (refine CallG.intro (fun _ => large3_c w) (by simp) (by simp) ?_; try simp )
        | ((with_reducible refine PreK.intro ?_ ?_); (next => (first | omega | (intros; first | omega | (refine ⟨by omega, ?_⟩; repeat (first | assumption | constructor)) | assumption))); intro _; try simp )
        | fail)
      refine CondK.intro (fun h3 => ?_) (fun h3 => ?_)
      · simp at h3; omega
      · have hw : w.length ≤ 1000 := by omega
        have h4 := Reach_c s w hs hw
        have h5 := rReach_c s w hs hw
        obtain ⟨n1, n2⟩ := ReachE_small (s := s) (w := w)
        have hself := ReachE_self (s := s) (w := w)
        rw [← Reach_same] at h5
        have h6 := sameLists_c (ReachE s w).1 (ReachE s w).1 (big_of n1) (fun x hx => big_of (n2 x hx))
        have h7 := part_c [w] (ReachE s w).1 (by simp) n1 (by simpa using hw)
        generalize ReachE s w = E at h4 h5 h6 h7 hself
        obtain ⟨E1, E2⟩ := E
        dsimp only at h4 h5 h6 h7 hself
        try simp 
        repeat' (first
          | (refine CallX.pure (h4) (by simp) (by simp) ?_; try simp )
          | (refine CallK.intro (h4) (by simp) (by simp) ?_; try simp )
          | (refine CallG.intro (fun _ => h4) (by simp) (by simp) ?_; try simp )
          | (refine CallX.pure (h5) (by simp) (by simp) ?_; try simp )
          | (refine CallK.intro (h5) (by simp) (by simp) ?_; try simp )
          | (refine CallG.intro (fun _ => h5) (by simp) (by simp) ?_; try simp )
          | (refine CallX.pure (h6) (by simp) (by simp) ?_; try simp )
          | (refine CallK.intro (h6) (by simp) (by simp) ?_; try simp )
          | (refine CallG.intro (fun _ => h6) (by simp) (by simp) ?_; try simp )
          | ((with_reducible refine PreK.intro ?_ ?_); (next => (first | omega | (intros; first | omega | (refine ⟨by omega, ?_⟩; repeat (first | assumption | constructor)) | assumption))); intro _; try simp )
          | fail)
        by_cases h0 : E2 = 0
        · have hp : partB [w] E1 = true := by
            have := hself h0
            simp [partB, this]
          rw [hp] at h7
          subst h0
          try simp 
          repeat' (first
            | ((with_reducible refine PreK.intro ?_ ?_); (next => (first | omega | (intros; first | omega | (refine ⟨by omega, ?_⟩; repeat (first | assumption | constructor)) | assumption))); intro _; try simp )
            | fail)
          refine CallG.intro (fun _ => CallP.weak (by simpa [weakL, weak, Abs.weakL_map weak_intsV] using h7)) (by simp) (by simp) ?_
          try simp 
          repeat' (first
            | (refine CallX.pure (known_c) (by simp) (by simp) ?_; try simp )
            | (refine CallK.intro (known_c) (by simp) (by simp) ?_; try simp )
            | (refine CallG.intro (fun _ => known_c) (by simp) (by simp) ?_; try simp )
            | ((with_reducible refine PreK.intro ?_ ?_); (next => (first | omega | (intros; first | omega | (refine ⟨by omega, ?_⟩; repeat (first | assumption | constructor)) | assumption))); intro _; try simp )
            | fail)
        · try simp 
          repeat' (first
            | ((with_reducible refine PreK.intro ?_ ?_); (next => (first | omega | (intros; first | omega | (refine ⟨by omega, ?_⟩; repeat (first | assumption | constructor)) | assumption))); intro _; try simp )
            | fail)
          refine CallG.intro (r := bv true) (fun hh => by simp [h0] at hh) (by simp [h0]) (by simp) ?_
          try simp 
          repeat' (first
            | (refine CallX.pure (known_c) (by simp) (by simp) ?_; try simp )
            | (refine CallK.intro (known_c) (by simp) (by simp) ?_; try simp )
            | (refine CallG.intro (fun _ => known_c) (by simp) (by simp) ?_; try simp )
            | ((with_reducible refine PreK.intro ?_ ?_); (next => (first | omega | (intros; first | omega | (refine ⟨by omega, ?_⟩; repeat (first | assumption | constructor)) | assumption))); intro _; try simp )
            | fail)
  · try simp 
    repeat' (first
      | ((with_reducible refine PreK.intro ?_ ?_); (next => (first | omega | (intros; first | omega | (refine ⟨by omega, ?_⟩; repeat (first | assumption | constructor)) | assumption))); intro _; try simp )
      | fail)
    refine CallG.intro (r := bv true) (fun hh => by cases hh) (by simp) (by simp) ?_
    try simp 
    refine CondK.intro (fun h3 => ?_) (fun h3 => ?_)
    · try simp 
      repeat' (first
        | (refine CallX.pure (known_c) (by simp) (by simp) ?_; try simp )
        | (refine CallK.intro (known_c) (by simp) (by simp) ?_; try simp )
        | (refine CallG.intro (fun _ => known_c) (by simp) (by simp) ?_; try simp )
        | ((with_reducible refine PreK.intro ?_ ?_); (next => (first | omega | (intros; first | omega | (refine ⟨by omega, ?_⟩; repeat (first | assumption | constructor)) | assumption))); intro _; try simp )
        | fail)
    · simp at h3
end Go.Proofs.Ytaooenmkofjafaa
end

section
/- Contracts: the reference's weights; the statement FeedWeights. -/
namespace Go.Proofs.Ytaooenmkofjafaa
open Go.Abs Go
set_option maxRecDepth 20000
set_option maxHeartbeats 2000000
attribute [local irreducible] PreK CondK CallK CallG CallX LoopK
attribute [local simp] avsEq avEq akind teq vkind vEq

theorem rweigh_c (o w : List Int) (ho : o.length = 6) (hl : w.length ≤ 1000) (hw : ∀ x ∈ w, 0 ≤ x ∧ x ≤ 5) (h0 : ∀ k, 0 ≤ el o k) (hb : weighM o w ≤ 1000000000000000) : CallP Try.prog 175 [ints o, ints w] (iv (weighM o w)) := by
  refine C175 (by simp) ?_
  generalize hR : weighM o w = R at hb
  simp [A175]
  refine LoopK.by (ι := Nat × Int) (fun i => ⟨[(6, iv i.1), (5, iv i.2), (0, ints o), (1, ints w)], []⟩) (fun i => w.length - i.1) (fun i => i.1 ≤ w.length ∧ 0 ≤ i.2 ∧ i.2 + weighM o (w.drop i.1) = R) (0, 0) (by simpa using hR) (by simp) ?_
  intro ⟨i, n⟩ Q' ⟨hi, hn, hc⟩ hq he hr
  dsimp only at hi hn hc
  try simp 
  refine CondK.intro (fun h1 => ?_) (fun h1 => ?_)
  · simp at h1
    have hx := hw (el w i) (el_mem w i h1)
    rw [drop_cons w i h1, weighM] at hc
    have h2 := weighM_nonneg h0 (w.drop (i + 1))
    have h3 := h0 (el w i).toNat
    have h4 : (el w i).toNat < o.length := by omega
    have h5 : (0 : Int) ≤ el w i := hx.1
    repeat (refine PreK.intro (by first | omega | (intros; first | omega | (refine ⟨by omega, ?_⟩; simp_all; done) | (simp_all; done) | (simp_all; omega))) fun _ => ?_; (try simp [h1, h4, h5]))
    refine hq (i + 1, n + el o (el w i).toNat) _ ⟨by dsimp only; omega, by dsimp only; omega, by dsimp only; omega⟩ (by dsimp only; omega) (by simp)
  · simp at h1
    rw [List.drop_eq_nil_of_le (by omega), weighM] at hc
    try simp 
    apply he
    simp [← hc]
theorem r3within_c (n lo hi : Int) : CallP Try.prog 176 [iv n, iv lo, iv hi] (bv (decide (lo ≤ n) && decide (n ≤ hi))) := by
  refine C176 (by simp) ?_
  simp [A176]
def sum6 (p : List Int) : Int := el p 0 + el p 1 + el p 2 + el p 3 + el p 4 + el p 5
theorem sum6_set {p : List Int} {i : Nat} {v : Int} (hl : p.length = 6) (hi : i < 6) (h : el p i < v) : sum6 p + 1 ≤ sum6 (p.set i v) := by
  have e : ∀ k, el (p.set i v) k = if i = k then v else el p k := fun k => el_set _ _ _ _ (by omega)
  unfold sum6
  simp only [e]
  have : i = 0 ∨ i = 1 ∨ i = 2 ∨ i = 3 ∨ i = 4 ∨ i = 5 := by omega
  rcases this with rfl | rfl | rfl | rfl | rfl | rfl <;> simp <;> omega
def rndR (s : List Rule) (n : Nat) : Option (List Int × Bool) → Option (List Int)
  | none => none
  | some (o, g) => if g then rroundsM s n o else some o
theorem rroundsM_succ (s : List Rule) (n : Nat) (o : List Int) : rroundsM s (n + 1) o = rndR s n (rpassM s (o, false)) := by
  rw [rroundsM]
  cases rpassM s (o, false) with
  | none => rfl
  | some p => rfl
theorem rWeights_c (s : List Rule) (hs : Sys.small s) : CallP Try.prog 97 [rulesV s] (.tup [ints (WeightsR s).1, bv (WeightsR s).2.1, iv (WeightsR s).2.2]) := by
  refine C97 (by simp) ?_
  simp [A97]
  try simp 
  repeat' (first
    | (refine CallX.pure (rsValidate_c s hs) (by simp) (by simp) ?_; try simp )
    | (refine CallK.intro (rsValidate_c s hs) (by simp) (by simp) ?_; try simp )
    | (refine CallG.intro (fun _ => rsValidate_c s hs) (by simp) (by simp) ?_; try simp )
    | ((with_reducible refine PreK.intro ?_ ?_); (next => (first | omega | (intros; first | omega | (refine ⟨by omega, ?_⟩; repeat (first | assumption | constructor)) | assumption))); intro _; try simp )
    | fail)
  refine CondK.intro (fun h1 => ?_) (fun h1 => ?_)
  · simp at h1
    simp [WeightsR, h1]
  · simp at h1
    obtain ⟨hs6, hsr⟩ := sysErr_zero h1
    have hRR : WeightsR s = match roundsM s 7 [0, 0, 0, 0, 0, 0] with | none => ([], false, 0) | some o => (o, true, 0) := by
      unfold WeightsR
      rw [if_neg (by simp [h1])]
      cases roundsM s 7 [0, 0, 0, 0, 0, 0] <;> rfl
    have hsame := weights_same (s := s) (fun r hr => (rule_in (hsr r hr)).2.1) (fun r hr => (rule_in (hsr r hr)).2.2.1) 6010 (by omega)
    rw [hRR, ← hsame]
    generalize hR : rroundsM s 6010 [0, 0, 0, 0, 0, 0] = R
    try simp 
    have hz : ∀ k, el ([0, 0, 0, 0, 0, 0] : List Int) k = 0 := fun k => (kept_zero []).sup k |>.elim id (fun ⟨r, hr, _⟩ => by cases hr)
    refine LoopK.by (ι := Nat × List Int × Bool) (fun x => ⟨[(0, rulesV s), (6, .sl 15 1 0 6), (7, bv x.2.2)], [(15, some ⟨1, x.2.1.map iv, 1, false⟩)]⟩) (fun x => 6010 - x.1)
      (fun x => x.2.1.length = 6 ∧ (∀ k, 0 ≤ el x.2.1 k) ∧ (∀ k, el x.2.1 k ≤ 1000) ∧ (x.2.2 = true → (x.1 : Int) ≤ sum6 x.2.1) ∧ (if x.2.2 then rroundsM s (6010 - x.1) x.2.1 else some x.2.1) = R) (0, [0, 0, 0, 0, 0, 0], true) ⟨rfl, fun k => by rw [hz]; exact Int.le_refl 0, fun k => by rw [hz]; omega, fun _ => by unfold sum6; simp [hz], by simpa using hR⟩ (by simp) ?_
    intro ⟨k, o, g⟩ Q' ⟨hol, ho0, hob, hsum, hc⟩ hq he hr
    dsimp only at hol ho0 hob hsum hc
    have hs6b : sum6 o ≤ 6000 := by
      unfold sum6
      have := hob 0; have := hob 1; have := hob 2; have := hob 3; have := hob 4; have := hob 5
      omega
    cases g
    · simp only [Bool.false_eq_true, if_false] at hc
      have ht6 : (o.map iv).take 6 = o.map iv := List.take_of_length_le (by simp; omega)
      try simp 
      refine CondK.intro (fun h2 => ?_) (fun h2 => ?_)
      · simp at h2
      · try simp 
        apply he
        simp [← hc, hol, ht6]
    · have hsum := hsum rfl
      simp only [if_true] at hc
      rw [show 6010 - k = (6009 - k) + 1 by omega, rroundsM_succ] at hc
      try simp 
      refine CondK.intro (fun h2 => ?_) (fun h2 => ?_)
      · try simp 
        refine LoopK.by (ι := Nat × List Int × Bool) (fun x => ⟨[(8, iv x.1), (0, rulesV s), (6, .sl 15 1 0 6), (7, bv x.2.2)], [(15, some ⟨1, x.2.1.map iv, 1, false⟩)]⟩) (fun x => s.length - x.1)
          (fun x => x.1 ≤ s.length ∧ x.2.1.length = 6 ∧ (∀ k, 0 ≤ el x.2.1 k) ∧ (∀ j, el x.2.1 j ≤ 1000) ∧ ((k : Int) ≤ sum6 x.2.1 ∧ (x.2.2 = true → (k : Int) + 1 ≤ sum6 x.2.1)) ∧ rndR s (6009 - k) (rpassM (s.drop x.1) (x.2.1, x.2.2)) = R) (0, o, false) ⟨by simp, hol, ho0, hob, ⟨hsum, fun h => (by cases h)⟩, hc⟩ (by simp) ?_
        intro ⟨j, p, g⟩ Q'' ⟨hj, hpl, hp0, hpb, ⟨hps, hpg⟩, hc'⟩ hq' he' hr'
        dsimp only at hj hpl hp0 hpb hps hpg hc'
        try simp 
        refine CondK.intro (fun h3 => ?_) (fun h3 => ?_)
        · simp at h3
          obtain ⟨r1, r2, r3, r4⟩ := rule_in (hsr (el s j) (by rw [el_eq s j h3]; exact List.getElem_mem h3))
          rw [drop_cons s j h3, rpassM] at hc'
          repeat (refine PreK.intro (by first | omega | (intros; first | omega | (refine ⟨by omega, ?_⟩; simp_all; done) | (simp_all; done) | (simp_all; omega))) fun _ => ?_; (try simp [h3]))
          refine CondK.intro (fun h4 => ?_) (fun h4 => ?_)
          · simp at h4
            rw [if_pos h4] at hc'
            simp only [rndR] at hc'
            try simp 
            apply hr'
            apply hr
            simp [← hc']
          · simp at h4
            rw [if_neg (by omega)] at hc'
            have hwb := weighM_le hpb (by omega) (el s j).to
            have hw0 := weighM_nonneg hp0 (el s j).to
            have hw2 : (1000 : Int) * (el s j).to.length ≤ 2000 := by omega
            have hwc := rweigh_c p (el s j).to hpl (by omega) r4 hp0 (by omega)
            have hfl : (el s j).frm.toNat < p.length := by omega
            have hf0 : 0 ≤ (el s j).frm := by omega
            have hf6 : (el s j).frm.toNat < 6 := by omega
            have ht6 : (p.map iv).take 6 = p.map iv := List.take_of_length_le (by simp; omega)
            repeat (refine PreK.intro (by first | omega | (intros; first | omega | (refine ⟨by omega, ?_⟩; simp_all; done) | (simp_all; done) | (simp_all; omega))) fun _ => ?_; (try simp [h3]))
            refine CallX.pure (by simpa [ht6, h3] using hwc) (by simp [hpl]) (by simp) ?_
            simp [h3, hfl, hf0]
            repeat (refine PreK.intro (by first | omega | (intros; first | omega | (refine ⟨by omega, ?_⟩; simp_all; done) | (simp_all; done) | (simp_all; omega))) fun _ => ?_; (try simp [h3, hfl, hf0, hf6, hpl]))
            repeat (refine PreK.intro (by first | omega | (intros; first | omega | (refine ⟨by omega, ?_⟩; simp_all; done) | (simp_all; done) | (simp_all; omega))) fun _ => ?_; (try simp [h3, hfl, hf0, hf6, hpl]))
            refine CondK.intro (fun h5 => ?_) (fun h5 => ?_)
            · simp at h5
              rw [if_pos (by omega)] at hc'
              repeat (refine PreK.intro (by first | omega | (intros; first | omega | (refine ⟨by omega, ?_⟩; simp_all; done) | (simp_all; done) | (simp_all; omega))) fun _ => ?_; (try simp ))
              refine CondK.intro (fun h6 => ?_) (fun h6 => ?_)
              · simp at h6
                rw [if_pos (by omega)] at hc'
                simp only [rndR] at hc'
                try simp 
                apply hr'
                apply hr
                simp [← hc']
              · simp at h6
                rw [if_neg (by omega)] at hc'
                repeat (refine PreK.intro (by first | omega | (intros; first | omega | (refine ⟨by omega, ?_⟩; simp_all; done) | (simp_all; done) | (simp_all; omega))) fun _ => ?_; (try simp [h3, hfl, hf0, hf6, hpl]))
                repeat (refine PreK.intro (by first | omega | (intros; first | omega | (refine ⟨by omega, ?_⟩; simp_all; done) | (simp_all; done) | (simp_all; omega))) fun _ => ?_; (try simp [h3, hfl, hf0, hf6, hpl]))
                have hsm := sum6_set (v := weighM p (el s j).to + 1) hpl hf6 (by omega)
                refine hq' (j + 1, p.set (el s j).frm.toNat (weighM p (el s j).to + 1), true) _ ⟨by dsimp only; omega, by simpa using hpl, fun x => ?_, fun x => ?_, ⟨by dsimp only; omega, fun _ => by dsimp only; omega⟩, hc'⟩ (by dsimp only; omega) (by simp [hfl, hf0, hpl])
                · dsimp only
                  rw [el_set _ _ _ _ hfl]
                  split
                  · omega
                  · exact hp0 x
                · dsimp only
                  rw [el_set _ _ _ _ hfl]
                  split
                  · omega
                  · exact hpb x
            · simp at h5
              rw [if_neg (by omega)] at hc'
              repeat (refine PreK.intro (by first | omega | (intros; first | omega | (refine ⟨by omega, ?_⟩; simp_all; done) | (simp_all; done) | (simp_all; omega))) fun _ => ?_; (try simp ))
              exact hq' (j + 1, p, g) _ ⟨by dsimp only; omega, hpl, hp0, hpb, ⟨hps, hpg⟩, hc'⟩ (by dsimp only; omega) (by simp)
        · simp at h3
          rw [List.drop_eq_nil_of_le (by omega), rpassM] at hc'
          simp only [rndR] at hc'
          try simp 
          apply he'
          cases g
          · simp only [Bool.false_eq_true, if_false] at hc'
            exact hq (k + 1, p, false) _ ⟨hpl, hp0, hpb, fun h => (by cases h), by simpa using hc'⟩ (by dsimp only; omega) (by simp)
          · simp only [if_true] at hc'
            have := hpg rfl
            exact hq (k + 1, p, true) _ ⟨hpl, hp0, hpb, fun _ => by dsimp only; omega, by simp only [if_true]; rw [show 6010 - (k + 1) = 6009 - k by omega]; exact hc'⟩ (by dsimp only; omega) (by simp)
      · simp at h2
end Go.Proofs.Ytaooenmkofjafaa
end

section
/- Contracts: which weights hold; the statement FeedWeights. -/
namespace Go.Proofs.Ytaooenmkofjafaa
open Go.Abs Go
set_option maxRecDepth 20000
set_option maxHeartbeats 2000000
attribute [local irreducible] PreK CondK CallK CallG CallX LoopK
attribute [local simp] avsEq avEq akind teq vkind vEq

/-- Whether a rule does not make words lighter. -/
def heavy (o : List Int) (r : Rule) : Bool := decide (r.frm < 0) || decide (el o r.frm.toNat ≤ weighM o r.to)
def CheckW (s : List Rule) (o : List Int) : Int := if sysErr s ≠ 0 then sysErr s else if areW o = false then 1 else if s.any (heavy o) then 7 else 0
theorem CheckWeights_c (s : List Rule) (o : List Int) (hs : Sys.small s) (ho : o.length ≤ big) : CallP Try.prog 91 [rulesV s, ints o] (iv (CheckW s o)) := by
  refine C91 (by simp) ?_
  simp [A91]
  try simp 
  repeat' (first
    | (refine CallX.pure (Validate_c s hs) (by simp) (by simp) ?_; try simp )
    | (refine CallK.intro (Validate_c s hs) (by simp) (by simp) ?_; try simp )
    | (refine CallG.intro (fun _ => Validate_c s hs) (by simp) (by simp) ?_; try simp )
    | ((with_reducible refine PreK.intro ?_ ?_); (next => (first | omega | (intros; first | omega | (refine ⟨by omega, ?_⟩; repeat (first | assumption | constructor)) | assumption))); intro _; try simp )
    | fail)
  refine CondK.intro (fun h1 => ?_) (fun h1 => ?_)
  · simp at h1
    simp [CheckW, h1]
  · simp at h1
    obtain ⟨hs6, hsr⟩ := sysErr_zero h1
    try simp 
    repeat' (first
      | (refine CallX.pure (areWeights_c o ho) (by simp) (by simp) ?_; try simp )
      | (refine CallK.intro (areWeights_c o ho) (by simp) (by simp) ?_; try simp )
      | (refine CallG.intro (fun _ => areWeights_c o ho) (by simp) (by simp) ?_; try simp )
      | ((with_reducible refine PreK.intro ?_ ?_); (next => (first | omega | (intros; first | omega | (refine ⟨by omega, ?_⟩; repeat (first | assumption | constructor)) | assumption))); intro _; try simp )
      | fail)
    refine CondK.intro (fun h2 => ?_) (fun h2 => ?_)
    · simp at h2
      simp [CheckW, h1, h2]
    · simp at h2
      obtain ⟨f1, f2, f3⟩ := areW_facts h2
      have hCW : CheckW s o = if s.any (heavy o) then 7 else 0 := by simp [CheckW, h1, h2]
      rw [hCW]
      generalize hR : s.any (heavy o) = R
      try simp 
      refine LoopK.by (fun i : Nat => ⟨[(18, iv i), (17, iv s.length), (16, rulesV s), (1, ints o)], []⟩) (fun i => s.length - i) (fun i => i ≤ s.length ∧ (s.drop i).any (heavy o) = R) 0 (by simpa using hR) (by simp) ?_
      intro i Q' ⟨hi, hc⟩ hq he hr
      try simp 
      refine CondK.intro (fun h3 => ?_) (fun h3 => ?_)
      · simp at h3
        obtain ⟨r1, r2, r3, r4⟩ := rule_in (hsr (el s i) (el_mem_of s i h3))
        rw [drop_cons s i h3, List.any_cons] at hc
        have hwb := weighM_le f3 (by omega) (el s i).to
        have hwc := weigh_c o (el s i).to f1 (by omega) r4 f2 (by omega)
        have hfl : (el s i).frm.toNat < o.length := by omega
        repeat (refine PreK.intro (by first | omega | (intros; first | omega | (refine ⟨by omega, ?_⟩; simp_all; done) | (simp_all; done) | (simp_all; omega))) fun _ => ?_; (try simp [h3]))
        by_cases h4 : (el s i).frm < 0
        · have hh : heavy o (el s i) = true := by simp [heavy, h4]
          rw [hh] at hc
          repeat (refine PreK.intro (by first | omega | (intros; first | omega | (refine ⟨by omega, ?_⟩; simp_all; done) | (simp_all; done) | (simp_all; omega))) fun _ => ?_; (try simp [h3, h4, hfl]))
          refine CallG.intro (r := iv 0) (fun hc => by simp [h4] at hc) (by simp [h4]) (by simp) ?_
          try simp [h3, h4, hfl]
          repeat (refine PreK.intro (by first | omega | (intros; first | omega | (refine ⟨by omega, ?_⟩; simp_all; done) | (simp_all; done) | (simp_all; omega))) fun _ => ?_; (try simp [h3, h4, hfl]))
          refine CondK.intro (fun h5 => ?_) (fun h5 => ?_)
          · try simp 
            apply hr
            simp [← hc]
          · simp [h4] at h5
        · have hfl : (el s i).frm.toNat < o.length := by omega
          have hf0 : 0 ≤ (el s i).frm := by omega
          have hh : heavy o (el s i) = decide (el o (el s i).frm.toNat ≤ weighM o (el s i).to) := by simp [heavy, h4]
          rw [hh] at hc
          repeat (refine PreK.intro (by first | omega | (intros; first | omega | (refine ⟨by omega, ?_⟩; simp_all; done) | (simp_all; done) | (simp_all; omega))) fun _ => ?_; (try simp [h3, h4, hfl, hf0]))
          refine CallG.intro (r := iv (weighM o (el s i).to)) (fun _ => by simpa using hwc) (by simp) (by simp) ?_
          try simp [h3, h4]
          repeat (refine PreK.intro (by first | omega | (intros; first | omega | (refine ⟨by omega, ?_⟩; simp_all; done) | (simp_all; done) | (simp_all; omega))) fun _ => ?_; (try simp [h3, h4, hfl, hf0]))
          refine CondK.intro (fun h5 => ?_) (fun h5 => ?_)
          · have h5' : decide (el o (el s i).frm.toNat ≤ weighM o (el s i).to) = true := by simpa [h4] using h5
            rw [h5'] at hc
            try simp 
            apply hr
            simp at hc
            simp [← hc]
          · have h5' : decide (el o (el s i).frm.toNat ≤ weighM o (el s i).to) = false := by simpa [h4] using h5
            rw [h5'] at hc
            repeat (refine PreK.intro (by first | omega | (intros; first | omega | (refine ⟨by omega, ?_⟩; simp_all; done) | (simp_all; done) | (simp_all; omega))) fun _ => ?_; (try simp ))
            exact hq (i + 1) _ ⟨by omega, by simpa using hc⟩ (by omega) (by simp)
      · simp at h3
        rw [List.drop_eq_nil_of_le (by omega)] at hc
        simp at hc
        try simp 
        apply he
        simp [← hc]
theorem weights_hold {s : List Rule} (h : (WeightsR s).2.2 = 0) (h2 : (WeightsR s).2.1 = true) : CheckW s (WeightsR s).1 = 0 := by
  obtain ⟨h0, hr⟩ := WeightsR_some h h2
  have hsr := (sysErr_zero h0).2
  obtain ⟨hk, hh⟩ := roundsM_kept (fun r hr => (rule_in (hsr r hr)).2.1) 7 _ _ (kept_zero s) hr
  have hb := weights_bound hk hh (fun r hr => (rule_in (hsr r hr)).2.2.1)
  have hA : areW (WeightsR s).1 = true := by
    unfold areW
    simp only [Bool.and_eq_true, decide_eq_true_eq, Bool.not_eq_true', List.any_eq_false, Bool.not_eq_true, Bool.not_eq_false']
    refine ⟨hk.len, fun x hx => ?_⟩
    obtain ⟨i, hi, rfl⟩ := List.getElem_of_mem hx
    have h1 := hk.pos i
    have h3 := hb i
    rw [el_eq _ i hi] at h1 h3
    simp; omega
  unfold CheckW
  rw [if_neg (by simp [h0]), if_neg (by simp [hA]), if_neg]
  simp only [List.any_eq_true, not_exists, not_and, Bool.not_eq_true]
  intro r hr
  obtain ⟨k1, k2⟩ := hh r hr
  simp only [heavy, Bool.or_eq_false_iff, decide_eq_false_iff_not]
  omega
theorem WeightsR_ok {s : List Rule} (h : (WeightsR s).2.1 = true) : (WeightsR s).2.2 = 0 := by
  unfold WeightsR at h ⊢
  split
  · rename_i h1
    rw [if_pos h1] at h; cases h
  · split <;> rfl
theorem lawFeedWeights_c (s : List Rule) (hb : s.length ≤ big) : CallP Try.prog 19 [rulesV s] (bv true) := by
  refine C19 (by simp) ?_
  simp [A19]
  refine CallX.pure (by simpa using long3_c s hb) (by simp) (by simp) ?_
  try simp 
  cases hl : longS s
  · have hs := longS_small hl
    have h4 := Weights_c s hs
    have h5 := rWeights_c s hs
    have hwl := WeightsR_len s
    have h6 := same1_c (WeightsR s).1 (WeightsR s).1 (big_of hwl)
    have h7 := CheckWeights_c s (WeightsR s).1 hs (big_of hwl)
    have hwh : (WeightsR s).2.1 = true → CheckW s (WeightsR s).1 = 0 := fun h => weights_hold (WeightsR_ok h) h
    generalize WeightsR s = W at h4 h5 h6 h7 hwl hwh
    obtain ⟨o, is, e⟩ := W
    dsimp only at h4 h5 h6 h7 hwl hwh
    try simp 
    refine CondK.intro (fun h3 => ?_) (fun h3 => ?_)
    · simp at h3
    · try simp 
      repeat' (first
        | (refine CallX.pure (h4) (by simp) (by simp) ?_; try simp )
        | (refine CallK.intro (h4) (by simp) (by simp) ?_; try simp )
        | (refine CallG.intro (fun _ => h4) (by simp) (by simp) ?_; try simp )
        | (refine CallX.pure (h5) (by simp) (by simp) ?_; try simp )
        | (refine CallK.intro (h5) (by simp) (by simp) ?_; try simp )
        | (refine CallG.intro (fun _ => h5) (by simp) (by simp) ?_; try simp )
        | (refine CallX.pure (h6) (by simp) (by simp) ?_; try simp )
        | (refine CallK.intro (h6) (by simp) (by simp) ?_; try simp )
        | (refine CallG.intro (fun _ => h6) (by simp) (by simp) ?_; try simp )
        | ((with_reducible refine PreK.intro ?_ ?_); (next => (first | omega | (intros; first | omega | (refine ⟨by omega, ?_⟩; repeat (first | assumption | constructor)) | assumption))); intro _; try simp )
        | fail)
      refine CondK.intro (fun h8 => ?_) (fun h8 => ?_)
      · simp at h8
      · cases is
        · try simp 
          repeat' (first
            | ((with_reducible refine PreK.intro ?_ ?_); (next => (first | omega | (intros; first | omega | (refine ⟨by omega, ?_⟩; repeat (first | assumption | constructor)) | assumption))); intro _; try simp )
            | fail)
          refine CallG.intro (r := iv 0) (fun hh => by cases hh) (by simp) (by simp) ?_
          try simp 
          repeat' (first
            | (refine CallX.pure (known_c) (by simp) (by simp) ?_; try simp )
            | (refine CallK.intro (known_c) (by simp) (by simp) ?_; try simp )
            | (refine CallG.intro (fun _ => known_c) (by simp) (by simp) ?_; try simp )
            | ((with_reducible refine PreK.intro ?_ ?_); (next => (first | omega | (intros; first | omega | (refine ⟨by omega, ?_⟩; repeat (first | assumption | constructor)) | assumption))); intro _; try simp )
            | fail)
        · rw [hwh rfl] at h7
          try simp 
          repeat' (first
            | (refine CallX.pure (h7) (by simp) (by simp) ?_; try simp )
            | (refine CallK.intro (h7) (by simp) (by simp) ?_; try simp )
            | (refine CallG.intro (fun _ => h7) (by simp) (by simp) ?_; try simp )
            | (refine CallX.pure (known_c) (by simp) (by simp) ?_; try simp )
            | (refine CallK.intro (known_c) (by simp) (by simp) ?_; try simp )
            | (refine CallG.intro (fun _ => known_c) (by simp) (by simp) ?_; try simp )
            | ((with_reducible refine PreK.intro ?_ ?_); (next => (first | omega | (intros; first | omega | (refine ⟨by omega, ?_⟩; repeat (first | assumption | constructor)) | assumption))); intro _; try simp )
            | fail)
  · try simp 
    refine CondK.intro (fun h3 => ?_) (fun h3 => ?_)
    · try simp 
      repeat' (first
        | (refine CallX.pure (known_c) (by simp) (by simp) ?_; try simp )
        | (refine CallK.intro (known_c) (by simp) (by simp) ?_; try simp )
        | (refine CallG.intro (fun _ => known_c) (by simp) (by simp) ?_; try simp )
        | ((with_reducible refine PreK.intro ?_ ?_); (next => (first | omega | (intros; first | omega | (refine ⟨by omega, ?_⟩; repeat (first | assumption | constructor)) | assumption))); intro _; try simp )
        | fail)
    · simp at h3
end Go.Proofs.Ytaooenmkofjafaa
end

section
/- Plain: paths, and the shortest one that a search gives. -/
namespace Go.Proofs.Ytaooenmkofjafaa
open Go.Abs Go

/-- A path from the k-th step on: the word, and the number of the step at which it ends, and why. -/
def ckP (s : List Rule) : List Step → Word → Nat → Word × Int × Int
  | [], v, k => (v, (k : Int), 0)
  | x :: l, v, k => if (decide (0 ≤ x.rule) && decide (x.rule ≤ (s.length : Int) - 1)) = false then ([], (k : Int), 4)
    else if (applyM (el s x.rule.toNat) v x.place).2 ≠ 0 then ([], (k : Int), 6)
    else ckP s l (applyM (el s x.rule.toNat) v x.place).1 (k + 1)
def CkPath (s : List Rule) (w : Word) (l : List Step) : Word × Int × Int :=
  if swErr s w ≠ 0 then ([], 0, swErr s w) else if 60 < l.length then ([], 0, 3) else ckP s l w 0
/-- One step leads from a word to another one. -/
def stepTo (s : List Rule) (u : Word) (x : Step) (v : Word) : Prop := 0 ≤ x.rule ∧ x.rule ≤ (s.length : Int) - 1 ∧ applyM (el s x.rule.toNat) u x.place = (v, 0)
theorem ckP_step {s : List Rule} {u v : Word} {x : Step} (h : stepTo s u x v) (l : List Step) (k : Nat) : ckP s (x :: l) u k = ckP s l v (k + 1) := by
  obtain ⟨h1, h2, h3⟩ := h
  rw [ckP, if_neg (by simp [h1, h2]), h3]
  simp
theorem ckP_len (s : List Rule) : ∀ (l : List Step) (v : Word) (k : Nat), v.length ≤ 1000 → (ckP s l v k).1.length ≤ 1000
  | [], v, k, h => h
  | x :: l, v, k, h => by
    rw [ckP]
    split
    · simp
    · split
      · simp
      · exact ckP_len s l _ _ (by have := applyM_len (el s x.rule.toNat) v x.place; omega)
theorem CkPath_len (s : List Rule) (w : Word) (l : List Step) (h : w.length ≤ 1000) : (CkPath s w l).1.length ≤ 1000 := by
  unfold CkPath
  split
  · simp
  · split
    · simp
    · exact ckP_len s l w 0 h
theorem stepTo_of {s : List Rule} {u v : Word} {x : Step} (h : (⟨x, v⟩ : Move) ∈ movesM s u) : stepTo s u x v := by
  have key : ∀ (s : List Rule) (k : Nat), (⟨x, v⟩ : Move) ∈ movesF u k s → ∃ i, i < s.length ∧ x.rule = ((k + i : Nat) : Int) ∧ applyM (el s i) u x.place = (v, 0) := by
    intro s
    induction s with
    | nil => intro k h; simp [movesF] at h
    | cons r s ih =>
      intro k h
      rw [movesF] at h
      rcases List.mem_append.1 h with h | h
      · obtain ⟨h1, h2⟩ := movesR_mem _ _ _ h
        obtain ⟨h3, h4⟩ := movesR_word _ _ _ h
        dsimp only at h1 h2 h3 h4
        exact ⟨0, by simp, by simpa using h1, by rw [h3, ← h4]; rfl⟩
      · obtain ⟨i, h1, h2, h3⟩ := ih (k + 1) h
        exact ⟨i + 1, by simp; omega, by rw [h2]; congr 1; omega, by simpa [el] using h3⟩
  obtain ⟨i, h1, h2, h3⟩ := key s 0 h
  refine ⟨by omega, by omega, ?_⟩
  rw [show x.rule.toNat = i by omega]
  exact h3
/-- The steps back from the i-th word to the first one. -/
def backM (g : Gr) : Nat → Nat → List Step
  | 0, _ => []
  | n + 1, i => if el g.frm i < 0 then [] else el g.stp i :: backM g n (el g.frm i).toNat
theorem backM_more (g : Gr) {s : List Rule} {ws : List WN} (h : GrD s g ws) : ∀ (n m i : Nat), i < n → i < m → i < ws.length → backM g n i = backM g m i
  | 0, m, i, hn, _, _ => by omega
  | n + 1, 0, i, _, hm, _ => by omega
  | n + 1, m + 1, i, hn, hm, hi => by
    rw [backM, backM]
    by_cases h0 : i = 0
    · subst h0
      rw [h.root hi]; simp
    · obtain ⟨k, h1, h2, _⟩ := h.back i (by omega) hi
      rw [h1]
      rw [if_neg (by omega), if_neg (by omega)]
      congr 1
      exact backM_more g h n m _ (by omega) (by omega) (by omega)
/-- They are a path, and as many as the word is away. -/
theorem backM_path {s : List Rule} {w : Word} {g : Gr} {ws : List WN} (h : GrD s g ws) (hf : ∃ l, ws = (w, 0) :: l) : ∀ (n i : Nat), i < n → i < ws.length →
    (backM g n i).length = (el ws i).2 ∧ ∀ (t : List Step) (k : Nat), ckP s ((backM g n i).reverse ++ t) w k = ckP s t (el ws i).1 (k + (el ws i).2)
  | 0, i, hn, _ => by omega
  | n + 1, i, hn, hi => by
    rw [backM]
    by_cases h0 : i = 0
    · subst h0
      rw [h.root hi]
      obtain ⟨l, rfl⟩ := hf
      simp [el]
    · obtain ⟨j, h1, h2, h3, h4⟩ := h.back i (by omega) hi
      rw [h1, if_neg (by omega)]
      obtain ⟨i1, i2⟩ := backM_path h hf n j (by omega) (by omega)
      simp only [Int.toNat_natCast]
      refine ⟨by simp [i1, h3], fun t k => ?_⟩
      rw [List.reverse_cons, List.append_assoc, i2, List.singleton_append, ckP_step (stepTo_of h4), h3]
      congr 1
/-- The same word has the same distance in both searches. -/
theorem same_far {ws rs : List WN} (hn : (rs.map (·.1)).Nodup) (h : ∀ y, y ∈ ws ↔ y ∈ rs) {i j : Nat} (hi : i < ws.length) (hj : j < rs.length) (he : (el ws i).1 = (el rs j).1) : (el ws i).2 = (el rs j).2 := by
  have h1 := (h _).1 (el_mem_of ws i hi)
  obtain ⟨k, hk, hek⟩ := List.getElem_of_mem h1
  have : k = j := by
    have hn := List.pairwise_iff_getElem.1 hn
    apply Classical.byContradiction
    intro hne
    rw [el_eq rs j hj, ← hek] at he
    rcases Nat.lt_or_gt_of_ne hne with hlt | hgt
    · have := hn k j (by simpa using hk) (by simpa using hj) hlt
      simp only [List.getElem_map] at this
      exact this he
    · have := hn j k (by simpa using hj) (by simpa using hk) hgt
      simp only [List.getElem_map] at this
      exact this he.symm
  subst this
  rw [← hek, el_eq rs k hk]
end Go.Proofs.Ytaooenmkofjafaa
end

section
/- Contracts: paths; the statements FeedPaths and OrderPaths. -/
namespace Go.Proofs.Ytaooenmkofjafaa
open Go.Abs Go
set_option maxRecDepth 20000
set_option maxHeartbeats 2000000
attribute [local irreducible] PreK CondK CallK CallG CallX LoopK
attribute [local simp] avsEq avEq akind teq vkind vEq

theorem CheckPath_c (s : List Rule) (w : List Int) (l : List Step) (h : Sys.small s) (hw : w.length ≤ 1000) (hl : l.length ≤ 1000) :
    CallP Try.prog 93 [rulesV s, ints w, stepsV l] (.tup [ints (CkPath s w l).1, iv (CkPath s w l).2.1, iv (CkPath s w l).2.2]) := by
  refine C93 (by simp) ?_
  have hck := check_c s [w] h (by simp) (by simpa using hw)
  rw [check_one] at hck
  simp [A93]
  refine CallX.pure (CallP.weak (by simpa [weakL, weak] using hck)) (by simp) (by simp) ?_
  try simp 
  refine CondK.intro (fun h1 => ?_) (fun h1 => ?_)
  · simp at h1
    simp [CkPath, h1]
  · simp at h1
    try simp 
    refine CondK.intro (fun h2 => ?_) (fun h2 => ?_)
    · simp at h2
      have h2' : 60 < l.length := by omega
      simp [CkPath, h1, h2']
    · simp at h2
      obtain ⟨hs6, hsr⟩ := sysErr_zero (swErr_zero h1).1
      have hC : CkPath s w l = ckP s l w 0 := by simp [CkPath, h1]; omega
      rw [hC]
      generalize hR : ckP s l w 0 = R
      obtain ⟨R1, R2, R3⟩ := R
      dsimp only
      try simp 
      repeat' (first
        | (refine CallX.pure ((clone_o w hw).toP) (by simp) (by simp) ?_; try simp )
        | (refine CallK.intro ((clone_o w hw).toP) (by simp) (by simp) ?_; try simp )
        | (refine CallG.intro (fun _ => (clone_o w hw).toP) (by simp) (by simp) ?_; try simp )
        | ((with_reducible refine PreK.intro ?_ ?_); (next => (first | omega | (intros; first | omega | (refine ⟨by omega, ?_⟩; repeat (first | assumption | constructor)) | assumption))); intro _; try simp )
        | fail)
      refine LoopK.by (ι := Nat × Word) (fun x => ⟨[(28, iv x.1), (27, iv l.length), (26, stepsV l), (0, rulesV s), (1, ints x.2), (2, stepsV l)], []⟩) (fun x => l.length - x.1)
        (fun x => x.1 ≤ l.length ∧ x.2.length ≤ 1000 ∧ ckP s (l.drop x.1) x.2 x.1 = (R1, R2, R3)) (0, w) ⟨by simp, hw, by simpa using hR⟩ (by simp) ?_
      intro ⟨i, v⟩ Q' ⟨hi, hv, hc⟩ hq he hr
      dsimp only at hi hv hc
      try simp 
      refine CondK.intro (fun h3 => ?_) (fun h3 => ?_)
      · simp at h3
        rw [drop_cons l i h3, ckP] at hc
        repeat (refine PreK.intro (by first | omega | (intros; first | omega | (refine ⟨by omega, ?_⟩; simp_all; done) | (simp_all; done) | (simp_all; omega))) fun _ => ?_; (try simp [h3]))
        try simp [h3]
        repeat' (first
          | (refine CallX.pure (fwithin_c (el l i).rule 0 ((s.length : Int) - 1)) (by simp) (by simp) ?_; try simp [h3])
          | (refine CallK.intro (fwithin_c (el l i).rule 0 ((s.length : Int) - 1)) (by simp) (by simp) ?_; try simp [h3])
          | (refine CallG.intro (fun _ => fwithin_c (el l i).rule 0 ((s.length : Int) - 1)) (by simp) (by simp) ?_; try simp [h3])
          | ((with_reducible refine PreK.intro ?_ ?_); (next => (first | omega | (intros; first | omega | (refine ⟨by omega, ?_⟩; repeat (first | assumption | constructor)) | assumption))); intro _; try simp [h3])
          | fail)
        refine CondK.intro (fun h4 => ?_) (fun h4 => ?_)
        · have h4' : (decide (0 ≤ (el l i).rule) && decide ((el l i).rule ≤ (s.length : Int) - 1)) = false := by
            try simp at h4
            simp only [Bool.and_eq_false_iff, decide_eq_false_iff_not]; omega
          rw [if_pos h4'] at hc
          simp only [Prod.mk.injEq] at hc
          obtain ⟨rfl, rfl, rfl⟩ := hc
          try simp 
          apply hr
          simp
        · have h4' : (decide (0 ≤ (el l i).rule) && decide ((el l i).rule ≤ (s.length : Int) - 1)) = true := by
            try simp at h4
            simp only [Bool.and_eq_true, decide_eq_true_eq]; omega
          rw [if_neg (by rw [h4']; simp)] at hc
          simp only [Bool.and_eq_true, decide_eq_true_eq] at h4'
          have hr0 : 0 ≤ (el l i).rule := h4'.1
          have hr1 : (el l i).rule.toNat < s.length := by omega
          have hac := Apply_c (el s (el l i).rule.toNat) v (el l i).place (h.el hr1) hv
          have hal := applyM_len (el s (el l i).rule.toNat) v (el l i).place
          repeat (refine PreK.intro (by first | omega | (intros; first | omega | (refine ⟨by omega, ?_⟩; simp_all; done) | (simp_all; done) | (simp_all; omega))) fun _ => ?_; (try simp [h3, hr0, hr1]))
          refine CallK.intro (by simpa using hac) (by simp) (by simp) ?_
          try simp [h3, hr0, hr1]
          repeat (refine PreK.intro (by first | omega | (intros; first | omega | (refine ⟨by omega, ?_⟩; simp_all; done) | (simp_all; done) | (simp_all; omega))) fun _ => ?_; (try simp [h3, hr0, hr1]))
          refine CondK.intro (fun h5 => ?_) (fun h5 => ?_)
          · simp at h5
            rw [if_pos (by simpa using h5)] at hc
            simp only [Prod.mk.injEq] at hc
            obtain ⟨rfl, rfl, rfl⟩ := hc
            try simp 
            apply hr
            simp
          · simp at h5
            rw [if_neg (by simpa using h5)] at hc
            repeat (refine PreK.intro (by first | omega | (intros; first | omega | (refine ⟨by omega, ?_⟩; simp_all; done) | (simp_all; done) | (simp_all; omega))) fun _ => ?_; (try simp ))
            exact hq (i + 1, (applyM (el s (el l i).rule.toNat) v (el l i).place).1) _ ⟨by dsimp only; omega, by dsimp only; omega, hc⟩ (by dsimp only; omega) (by simp)
      · simp at h3
        rw [List.drop_eq_nil_of_le (by omega), ckP] at hc
        simp only [Prod.mk.injEq] at hc
        obtain ⟨rfl, rfl, rfl⟩ := hc
        have : i = l.length := by omega
        subst this
        try simp 
        apply he
        try simp 
        repeat' (first
          | ((with_reducible refine PreK.intro ?_ ?_); (next => (first | omega | (intros; first | omega | (refine ⟨by omega, ?_⟩; repeat (first | assumption | constructor)) | assumption))); intro _; try simp )
          | fail)
theorem rCheckPath_c (s : List Rule) (w : List Int) (l : List Step) (h : Sys.small s) (hw : w.length ≤ 1000) (hl : l.length ≤ 1000) :
    CallP Try.prog 98 [rulesV s, ints w, stepsV l] (.tup [ints (CkPath s w l).1, iv (CkPath s w l).2.1, iv (CkPath s w l).2.2]) := by
  refine C98 (by simp) ?_
  have hck := rworded_c s w [] h hw (by simp)
  rw [check_nil] at hck
  simp [A98]
  try simp 
  repeat' (first
    | (refine CallX.pure (hck) (by simp) (by simp) ?_; try simp )
    | (refine CallK.intro (hck) (by simp) (by simp) ?_; try simp )
    | (refine CallG.intro (fun _ => hck) (by simp) (by simp) ?_; try simp )
    | ((with_reducible refine PreK.intro ?_ ?_); (next => (first | omega | (intros; first | omega | (refine ⟨by omega, ?_⟩; repeat (first | assumption | constructor)) | assumption))); intro _; try simp )
    | fail)
  refine CondK.intro (fun h1 => ?_) (fun h1 => ?_)
  · simp at h1
    simp [CkPath, h1]
  · simp at h1
    try simp 
    refine CondK.intro (fun h2 => ?_) (fun h2 => ?_)
    · simp at h2
      have h2' : 60 < l.length := by omega
      simp [CkPath, h1, h2']
    · simp at h2
      obtain ⟨hs6, hsr⟩ := sysErr_zero (swErr_zero h1).1
      have hC : CkPath s w l = ckP s l w 0 := by simp [CkPath, h1]; omega
      rw [hC]
      generalize hR : ckP s l w 0 = R
      obtain ⟨R1, R2, R3⟩ := R
      dsimp only
      try simp 
      repeat' (first
        | ((with_reducible refine PreK.intro ?_ ?_); (next => (first | omega | (intros; first | omega | (refine ⟨by omega, ?_⟩; repeat (first | assumption | constructor)) | assumption))); intro _; try simp )
        | fail)
      refine LoopK.frz 25 (b := ⟨1, w.map iv, 1, false⟩) (by simp) (by simp) ?_
      refine LoopK.by (ι := Nat × Word) (fun x => ⟨[(11, iv x.1), (0, rulesV s), (10, ints x.2), (2, stepsV l)], []⟩) (fun x => l.length - x.1)
        (fun x => x.1 ≤ l.length ∧ x.2.length ≤ 1000 ∧ ckP s (l.drop x.1) x.2 x.1 = (R1, R2, R3)) (0, w) ⟨by simp, hw, by simpa using hR⟩ (by simp) ?_
      intro ⟨i, v⟩ Q' ⟨hi, hv, hc⟩ hq he hr
      dsimp only at hi hv hc
      try simp 
      refine CondK.intro (fun h3 => ?_) (fun h3 => ?_)
      · simp at h3
        rw [drop_cons l i h3, ckP] at hc
        repeat (refine PreK.intro (by first | omega | (intros; first | omega | (refine ⟨by omega, ?_⟩; simp_all; done) | (simp_all; done) | (simp_all; omega))) fun _ => ?_; (try simp [h3]))
        try simp [h3]
        repeat' (first
          | (refine CallX.pure (r3within_c (el l i).rule 0 ((s.length : Int) - 1)) (by simp) (by simp) ?_; try simp [h3])
          | (refine CallK.intro (r3within_c (el l i).rule 0 ((s.length : Int) - 1)) (by simp) (by simp) ?_; try simp [h3])
          | (refine CallG.intro (fun _ => r3within_c (el l i).rule 0 ((s.length : Int) - 1)) (by simp) (by simp) ?_; try simp [h3])
          | ((with_reducible refine PreK.intro ?_ ?_); (next => (first | omega | (intros; first | omega | (refine ⟨by omega, ?_⟩; repeat (first | assumption | constructor)) | assumption))); intro _; try simp [h3])
          | fail)
        refine CondK.intro (fun h4 => ?_) (fun h4 => ?_)
        · have h4' : (decide (0 ≤ (el l i).rule) && decide ((el l i).rule ≤ (s.length : Int) - 1)) = false := by
            try simp at h4
            simp only [Bool.and_eq_false_iff, decide_eq_false_iff_not]; omega
          rw [if_pos h4'] at hc
          simp only [Prod.mk.injEq] at hc
          obtain ⟨rfl, rfl, rfl⟩ := hc
          try simp 
          apply hr
          simp
        · have h4' : (decide (0 ≤ (el l i).rule) && decide ((el l i).rule ≤ (s.length : Int) - 1)) = true := by
            try simp at h4
            simp only [Bool.and_eq_true, decide_eq_true_eq]; omega
          rw [if_neg (by rw [h4']; simp)] at hc
          simp only [Bool.and_eq_true, decide_eq_true_eq] at h4'
          have hr0 : 0 ≤ (el l i).rule := h4'.1
          have hr1 : (el l i).rule.toNat < s.length := by omega
          have hac := rApply_c (el s (el l i).rule.toNat) v (el l i).place (h.el hr1) hv
          have hal := applyM_len (el s (el l i).rule.toNat) v (el l i).place
          repeat (refine PreK.intro (by first | omega | (intros; first | omega | (refine ⟨by omega, ?_⟩; simp_all; done) | (simp_all; done) | (simp_all; omega))) fun _ => ?_; (try simp [h3, hr0, hr1]))
          refine CallK.intro (by simpa using hac) (by simp) (by simp) ?_
          try simp [h3, hr0, hr1]
          repeat (refine PreK.intro (by first | omega | (intros; first | omega | (refine ⟨by omega, ?_⟩; simp_all; done) | (simp_all; done) | (simp_all; omega))) fun _ => ?_; (try simp [h3, hr0, hr1]))
          refine CondK.intro (fun h5 => ?_) (fun h5 => ?_)
          · simp at h5
            rw [if_pos (by simpa using h5)] at hc
            simp only [Prod.mk.injEq] at hc
            obtain ⟨rfl, rfl, rfl⟩ := hc
            try simp 
            apply hr
            simp
          · simp at h5
            rw [if_neg (by simpa using h5)] at hc
            repeat (refine PreK.intro (by first | omega | (intros; first | omega | (refine ⟨by omega, ?_⟩; simp_all; done) | (simp_all; done) | (simp_all; omega))) fun _ => ?_; (try simp ))
            exact hq (i + 1, (applyM (el s (el l i).rule.toNat) v (el l i).place).1) _ ⟨by dsimp only; omega, by dsimp only; omega, hc⟩ (by dsimp only; omega) (by simp)
      · simp at h3
        rw [List.drop_eq_nil_of_le (by omega), ckP] at hc
        simp only [Prod.mk.injEq] at hc
        obtain ⟨rfl, rfl, rfl⟩ := hc
        have : i = l.length := by omega
        subst this
        try simp 
        apply he
        try simp 
        repeat' (first
          | ((with_reducible refine PreK.intro ?_ ?_); (next => (first | omega | (intros; first | omega | (refine ⟨by omega, ?_⟩; repeat (first | assumption | constructor)) | assumption))); intro _; try simp )
          | fail)
theorem lawFeedPaths_c (s : List Rule) (w : List Int) (l : List Step) (hb : s.length ≤ big) (hwb : w.length ≤ big) (hlb : l.length ≤ big) : CallP Try.prog 20 [rulesV s, ints w, stepsV l] (bv true) := by
  refine C20 (by simp) ?_
  simp [A20]
  refine CallX.pure (by simpa using long3_c s hb) (by simp) (by simp) ?_
  try simp 
  cases hl : longS s
  · have hs := longS_small hl
    by_cases h2 : 100 < w.length
    · try simp 
      repeat' (first
        | (refine CallX.pure (large3_c w) (by simp) (by simp) ?_; try simp )
        | (refine CallK.intro (large3_c w) (by simp) (by simp) ?_; try simp )
        | (refine CallG.intro (fun _ => large3_c w) (by simp) (by simp) ?_; try simp )
        | ((with_reducible refine PreK.intro ?_ ?_); (next => (first | omega | (intros; first | omega | (refine ⟨by omega, ?_⟩; repeat (first | assumption | constructor)) | assumption))); intro _; try simp )
        | fail)
      refine CondK.intro (fun h3 => ?_) (fun h3 => ?_)
      · try simp 
        repeat' (first
          | (refine CallX.pure (known_c) (by simp) (by simp) ?_; try simp )
          | (refine CallK.intro (known_c) (by simp) (by simp) ?_; try simp )
          | (refine CallG.intro (fun _ => known_c) (by simp) (by simp) ?_; try simp )
          | ((with_reducible refine PreK.intro ?_ ?_); (next => (first | omega | (intros; first | omega | (refine ⟨by omega, ?_⟩; repeat (first | assumption | constructor)) | assumption))); intro _; try simp )
          | fail)
      · simp [h2] at h3
    · try simp 
      repeat' (first
        | (refine CallX.pure (large3_c w) (by simp) (by simp) ?_; try simp )
        | (refine CallK.intro (large3_c w) (by simp) (by simp) ?_; try simp )
        | (refine CallG.intro (fun _ => large3_c w) (by simp) (by simp) ?_; try simp )
        | ((with_reducible refine PreK.intro ?_ ?_); (next => (first | omega | (intros; first | omega | (refine ⟨by omega, ?_⟩; repeat (first | assumption | constructor)) | assumption))); intro _; try simp )
        | fail)
      refine CondK.intro (fun h3 => ?_) (fun h3 => ?_)
      · have : 200 < l.length := by simp [h2] at h3; omega
        try simp 
        repeat' (first
          | (refine CallX.pure (known_c) (by simp) (by simp) ?_; try simp )
          | (refine CallK.intro (known_c) (by simp) (by simp) ?_; try simp )
          | (refine CallG.intro (fun _ => known_c) (by simp) (by simp) ?_; try simp )
          | ((with_reducible refine PreK.intro ?_ ?_); (next => (first | omega | (intros; first | omega | (refine ⟨by omega, ?_⟩; repeat (first | assumption | constructor)) | assumption))); intro _; try simp )
          | fail)
      · have hln : l.length ≤ 200 := by simp [h2] at h3; omega
        have hw : w.length ≤ 1000 := by omega
        have h4 := CheckPath_c s w l hs hw (by omega)
        have h5 := rCheckPath_c s w l hs hw (by omega)
        have hcl := CkPath_len s w l hw
        have h6 := same1_c (CkPath s w l).1 (CkPath s w l).1 (big_of hcl)
        generalize CkPath s w l = E at h4 h5 h6 hcl
        obtain ⟨E1, E2, E3⟩ := E
        dsimp only at h4 h5 h6
        try simp 
        repeat' (first
          | (refine CallX.pure (h4) (by simp) (by simp) ?_; try simp )
          | (refine CallK.intro (h4) (by simp) (by simp) ?_; try simp )
          | (refine CallG.intro (fun _ => h4) (by simp) (by simp) ?_; try simp )
          | (refine CallX.pure (h5) (by simp) (by simp) ?_; try simp )
          | (refine CallK.intro (h5) (by simp) (by simp) ?_; try simp )
          | (refine CallG.intro (fun _ => h5) (by simp) (by simp) ?_; try simp )
          | (refine CallX.pure (h6) (by simp) (by simp) ?_; try simp )
          | (refine CallK.intro (h6) (by simp) (by simp) ?_; try simp )
          | (refine CallG.intro (fun _ => h6) (by simp) (by simp) ?_; try simp )
          | (refine CallX.pure (known_c) (by simp) (by simp) ?_; try simp )
          | (refine CallK.intro (known_c) (by simp) (by simp) ?_; try simp )
          | (refine CallG.intro (fun _ => known_c) (by simp) (by simp) ?_; try simp )
          | ((with_reducible refine PreK.intro ?_ ?_); (next => (first | omega | (intros; first | omega | (refine ⟨by omega, ?_⟩; repeat (first | assumption | constructor)) | assumption))); intro _; try simp )
          | fail)
  · try simp 
    repeat' (first
      | ((with_reducible refine PreK.intro ?_ ?_); (next => (first | omega | (intros; first | omega | (refine ⟨by omega, ?_⟩; repeat (first | assumption | constructor)) | assumption))); intro _; try simp )
      | fail)
    refine CallG.intro (r := bv true) (fun hh => by cases hh) (by simp) (by simp) ?_
    try simp 
    refine CondK.intro (fun h3 => ?_) (fun h3 => ?_)
    · try simp 
      repeat' (first
        | (refine CallX.pure (known_c) (by simp) (by simp) ?_; try simp )
        | (refine CallK.intro (known_c) (by simp) (by simp) ?_; try simp )
        | (refine CallG.intro (fun _ => known_c) (by simp) (by simp) ?_; try simp )
        | ((with_reducible refine PreK.intro ?_ ?_); (next => (first | omega | (intros; first | omega | (refine ⟨by omega, ?_⟩; repeat (first | assumption | constructor)) | assumption))); intro _; try simp )
        | fail)
    · simp at h3
end Go.Proofs.Ytaooenmkofjafaa
end

section
/- Plain: walks in a finite graph; the longest one, found in rounds and by going deep. -/
namespace Go.Proofs.Ytaooenmkofjafaa
open Go.Abs Go

variable {nx : Word → List Word}
theorem ReachN.split {u v : Word} : ∀ {n m : Nat}, ReachN nx u (n + m) v → ∃ x, ReachN nx u n x ∧ ReachN nx x m v
  | n, 0, h => ⟨v, h, .zero⟩
  | n, m + 1, h => by
    cases h with
    | succ h hx =>
      obtain ⟨x, h1, h2⟩ := ReachN.split (n := n) (m := m) h
      exact ⟨x, h1, .succ h2 hx⟩
theorem ReachN.first {u v : Word} {n : Nat} (h : ReachN nx u (n + 1) v) : ∃ x, x ∈ nx u ∧ ReachN nx x n v := by
  rw [Nat.add_comm] at h
  obtain ⟨x, h1, h2⟩ := ReachN.split (n := 1) (m := n) h
  cases h1 with
  | succ h3 hx =>
    cases h3 with
    | zero => exact ⟨x, hx, h2⟩
theorem ReachN.cons {u x v : Word} {n : Nat} (hx : x ∈ nx u) (h : ReachN nx x n v) : ReachN nx u (n + 1) v := by
  have : ReachN nx u 1 x := .succ .zero hx
  have := this.trans h
  rwa [Nat.add_comm] at this
/-- Steps go on for ever. -/
def EverR (nx : Word → List Word) (w : Word) : Prop := ∀ n, ∃ x, ReachN nx w n x
/-- The greatest number of steps, or none if they go on for ever. -/
structure LongR (nx : Word → List Word) (w : Word) (n : Int) (ok : Bool) : Prop where
  fin : ok = true → (∃ m : Nat, n = (m : Int) ∧ ∃ x, ReachN nx w m x) ∧ ∀ (m : Nat) (x : Word), ReachN nx w m x → (m : Int) ≤ n
  ever : ok = false → n = 0 ∧ EverR nx w
theorem LongR.same {w : Word} {n m : Int} {a b : Bool} (h : LongR nx w n a) (k : LongR nx w m b) : n = m ∧ a = b := by
  cases a with
  | true =>
    obtain ⟨⟨x, hx, y, hy⟩, h2⟩ := h.fin rfl
    cases b with
    | true =>
      obtain ⟨⟨x', hx', y', hy'⟩, h2'⟩ := k.fin rfl
      have := h2 _ _ hy'
      have := h2' _ _ hy
      exact ⟨by omega, rfl⟩
    | false =>
      obtain ⟨_, h3⟩ := k.ever rfl
      obtain ⟨z, hz⟩ := h3 (x + 1)
      have := h2 _ _ hz
      omega
  | false =>
    obtain ⟨h0, h3⟩ := h.ever rfl
    cases b with
    | true =>
      obtain ⟨⟨x', hx', y', hy'⟩, h2'⟩ := k.fin rfl
      obtain ⟨z, hz⟩ := h3 (x' + 1)
      have := h2' _ _ hz
      omega
    | false => exact ⟨by rw [h0, (k.ever rfl).1], rfl⟩
theorem LongR.congr {nx' : Word → List Word} (he : ∀ v x, x ∈ nx v ↔ x ∈ nx' v) {w : Word} {n : Int} {a : Bool} (h : LongR nx w n a) : LongR nx' w n a := by
  refine ⟨fun ha => ?_, fun ha => ?_⟩
  · obtain ⟨⟨m, h1, x, h2⟩, h3⟩ := h.fin ha
    exact ⟨⟨m, h1, x, h2.congr he⟩, fun k y hy => h3 k y (hy.congr fun v x => (he v x).symm)⟩
  · obtain ⟨h1, h2⟩ := h.ever ha
    exact ⟨h1, fun n => by obtain ⟨x, hx⟩ := h2 n; exact ⟨x, hx.congr he⟩⟩
/-- What holds while edges are gone through. -/
structure RelOK (nx : Word → List Word) (ws : List Word) (o : List Int) (b : Int) : Prop where
  len : o.length = ws.length
  walk : ∀ i, i < ws.length → ∃ n : Nat, el o i = (n : Int) ∧ ∃ u ∈ ws, ReachN nx u n (el ws i)
  top : ∀ i, i < ws.length → el o i ≤ b
  best : b = 0 ∨ ∃ i, i < ws.length ∧ el o i = b
  pos : 0 ≤ b
/-- The edges of a graph of words. -/
structure EdgesOK (nx : Word → List Word) (ws : List Word) (es : List (Nat × Nat)) : Prop where
  lt : ∀ e ∈ es, e.1 < ws.length ∧ e.2 < ws.length ∧ el ws e.2 ∈ nx (el ws e.1)
  all : ∀ i, i < ws.length → ∀ x ∈ nx (el ws i), ∃ j, (i, j) ∈ es ∧ el ws j = x
theorem el_setG {α : Type} [Inhabited α] (o : List α) (i k : Nat) (v : α) (hi : i < o.length) : el (o.set i v) k = if i = k then v else el o k := by
  unfold el
  rw [List.getD_eq_getElem?_getD, List.getElem?_set]
  by_cases h : i = k
  · subst h; simp [hi]
  · simp [h]
/-- The words that are reached, and no others. -/
structure AllOK (nx : Word → List Word) (w : Word) (ws : List Word) : Prop where
  mem : w ∈ ws
  reach : ∀ x ∈ ws, ∃ n, ReachN nx w n x
  all : ∀ n x, ReachN nx w n x → x ∈ ws
end Go.Proofs.Ytaooenmkofjafaa
end

section
/- Contracts: the program's path, the reference's distance; the statement FeedFinds. -/
namespace Go.Proofs.Ytaooenmkofjafaa
open Go.Abs Go
set_option maxRecDepth 20000
set_option maxHeartbeats 2000000
attribute [local irreducible] PreK CondK CallK CallG CallX LoopK
attribute [local simp] avsEq avEq akind teq vkind vEq

theorem el_rev {α : Type} [Inhabited α] (l : List α) {q : Nat} (h : q < l.length) : el l.reverse q = el l (l.length - 1 - q) := by
  rw [el_eq _ _ (by simpa using h), el_eq _ _ (by omega), List.getElem_reverse]
theorem ext_el {α : Type} [Inhabited α] {a b : List α} (hl : a.length = b.length) (h : ∀ q, q < a.length → el a q = el b q) : a = b := by
  apply List.ext_getElem hl
  intro i h1 h2
  have := h i h1
  rwa [el_eq _ _ h1, el_eq _ _ h2] at this
theorem reverse_L (l : List Step) (hl : l.length ≤ 1000) : CallL Try.prog 172 [] 2 (l.map stepV) [] (.val (.tup [])) (l.reverse.map stepV) := by
  refine CL172 (by simp) ?_
  simp [A172]
  try simp 
  repeat (refine PreK.intro (by first | omega | (intros; first | omega | (refine ⟨by omega, ?_⟩; simp_all; done) | (simp_all; done) | (simp_all; omega))) fun _ => ?_; (try simp ))
  refine LoopK.by (ι := Nat × List Step) (fun x => ⟨[(2, iv x.1), (3, iv ((l.length : Int) - 1 - x.1)), (0, .sl lid 0 0 l.length)], [(lid, some ⟨2, x.2.map stepV, 0, false⟩)]⟩) (fun x => l.length - x.1)
    (fun x => x.1 ≤ l.length ∧ x.2.length = l.length ∧ 2 * x.1 ≤ l.length + 1 ∧ ∀ q, q < l.length → el x.2 q = if q < x.1 ∨ l.length ≤ q + x.1 then el l (l.length - 1 - q) else el l q) (0, l) ⟨by simp, rfl, by simp, fun q hq => by dsimp only; rw [if_neg (by omega)]⟩ (by simp) ?_
  intro ⟨i, c⟩ Q' ⟨hi, hcl, h2i, hce⟩ hq he hr
  dsimp only at hi hcl h2i hce
  try simp 
  refine CondK.intro (fun h1 => ?_) (fun h1 => ?_)
  · simp at h1
    have g1 : i < c.length := by omega
    have g2 : l.length - 1 - i < c.length := by omega
    have e0 : ((l.length : Int) - 1 - i).toNat = l.length - 1 - i := by omega
    have e1 : (0 : Int) ≤ (l.length : Int) - 1 - i := by omega
    have e2 : (l.length : Int) - 1 - i < c.length := by omega
    have g1l : i < l.length := by omega
    have g2l : l.length - 1 - i < l.length := by omega
    have d1 := hce i (by omega)
    have d2 := hce (l.length - 1 - i) (by omega)
    rw [if_neg (by omega)] at d1 d2
    have e3 : nth ((c.map stepV).set i (stepV (el c (l.length - 1 - i)))) (l.length - 1 - i) = stepV (el c (l.length - 1 - i)) := by
      rw [← List.map_set, nth_map _ _ _ (by simpa using g2), el_setG _ _ _ _ g1, if_neg (by omega)]
    simp only [stepV, iv] at e3
    try simp [g1, g2, g1l, g2l, e0, e1, e2, hcl, e3]
    repeat (refine PreK.intro (by first | omega | (intros; first | omega | (refine ⟨by omega, ?_⟩; simp_all; done) | (simp_all; done) | (simp_all; omega))) fun _ => ?_; (try simp [g1, g2, g1l, g2l, e0, e1, e2, hcl, e3]))
    try simp [g1, g2, g1l, g2l, e0, e1, e2, hcl, e3]
    repeat (refine PreK.intro (by first | omega | (intros; first | omega | (refine ⟨by omega, ?_⟩; simp_all; done) | (simp_all; done) | (simp_all; omega))) fun _ => ?_; (try simp [g1, g2, g1l, g2l, e0, e1, e2, hcl, e3]))
    refine hq (i + 1, (c.set i (el c (l.length - 1 - i))).set (l.length - 1 - i) (el c i)) _ ⟨by dsimp only; omega, by simpa using hcl, by dsimp only; omega, fun q hq2 => ?_⟩ (by dsimp only; omega) ?_
    · dsimp only
      rw [el_setG _ _ _ _ (by simpa using g2), el_setG _ _ _ _ g1]
      by_cases h3 : l.length - 1 - i = q
      · rw [if_pos h3, if_pos (by omega), d1]
        congr 1; omega
      · rw [if_neg h3]
        by_cases h4 : i = q
        · rw [if_pos h4, if_pos (by omega), d2]
          congr 1; omega
        · rw [if_neg h4, hce q hq2]
          by_cases h5 : q < i ∨ l.length ≤ q + i
          · rw [if_pos h5, if_pos (by omega)]
          · rw [if_neg h5, if_neg (by omega)]
    · simp [hcl, g1, g2, g1l, g2l, e0, List.map_set]
      omega
  · simp at h1
    have hcr : c = l.reverse := by
      refine ext_el (by simp [hcl]) fun q hq2 => ?_
      rw [hce q (by omega), el_rev l (by omega)]
      split
      · rfl
      · congr 1; omega
    subst hcr
    try simp 
    apply he
    try simp 
    repeat' (first
      | ((with_reducible refine PreK.intro ?_ ?_); (next => (first | omega | (intros; first | omega | (refine ⟨by omega, ?_⟩; repeat (first | assumption | constructor)) | assumption))); intro _; try simp )
      | fail)
theorem checkErr_two {s : List Rule} {w v : List Int} (h : checkErr s [w, v] = 0) : sysErr s = 0 ∧ wordErr w = 0 ∧ wordErr v = 0 := by
  unfold checkErr at h
  by_cases h1 : sysErr s = 0
  · by_cases h2 : wordErr w = 0
    · simp [h1, h2, firstW] at h
      exact ⟨h1, h2, Decidable.byContradiction fun e => e (h e)⟩
    · simp [h1, h2, firstW] at h
  · simp [h1] at h
def PathR (s : List Rule) (w v : Word) : List Step × Bool × Int :=
  if checkErr s [w, v] ≠ 0 then ([], false, checkErr s [w, v]) else match reachG s w with
  | none => ([], false, 3)
  | some g => if v ∈ g.ws then (if 60 < (backM g 301 (findI g.ws v).toNat).length then ([], false, 0) else ((backM g 301 (findI g.ws v).toNat).reverse, true, 0)) else ([], false, 0)
theorem reachG_D {s : List Rule} {w : Word} {g : Gr} (e : reachG s w = some g) : ∃ ws, GrD s g ws ∧ Closed (nxP s) w ws := by
  have h := reachG_F s w
  rw [e] at h
  cases hc : closeM (nxP s) w with
  | none => rw [hc] at h; exact h.elim
  | some ws => rw [hc] at h; exact ⟨ws, h, closeM_some hc⟩
theorem nodup_at {l : List Word} (h : l.Nodup) {i j : Nat} (hi : i < l.length) (hj : j < l.length) (e : el l i = el l j) : i = j := by
  rw [el_eq _ _ hi, el_eq _ _ hj] at e
  have hn := List.pairwise_iff_getElem.1 h
  apply Classical.byContradiction
  intro hne
  rcases Nat.lt_or_gt_of_ne hne with hlt | hgt
  · exact hn i j hi hj hlt e
  · exact hn j i hj hi hgt e.symm
theorem Path_c (s : List Rule) (w v : List Int) (h : Sys.small s) (hw : w.length ≤ 1000) (hv : v.length ≤ 1000) :
    CallP Try.prog 92 [rulesV s, ints w, ints v] (.tup [stepsV (PathR s w v).1, bv (PathR s w v).2.1, iv (PathR s w v).2.2]) := by
  refine C92 (by simp) ?_
  have hck := check_c s [w, v] h (by simp) (by intro x hx; simp at hx; rcases hx with rfl | rfl <;> assumption)
  simp [A92]
  refine CallX.pure (CallP.weak (by simpa [weakL, weak] using hck)) (by simp) (by simp) ?_
  try simp 
  refine CondK.intro (fun h1 => ?_) (fun h1 => ?_)
  · simp at h1
    simp [PathR, h1]
  · simp at h1
    obtain ⟨z1, z2, z3⟩ := checkErr_two h1
    have hrc := reach_c s w h z1 z2
    have hkc := key_c v (by have := (wordErr_zero z3).1; omega) (fine_of z3)
    cases hg : reachG s w with
    | none =>
      rw [hg] at hrc
      have e2 : PathR s w v = ([], false, 3) := by simp [PathR, h1, hg]
      rw [e2]
      simp only [reachV] at hrc
      try simp 
      repeat' (first
        | (refine CallX.pure (hrc) (by simp) (by simp) ?_; try simp )
        | (refine CallK.intro (hrc) (by simp) (by simp) ?_; try simp )
        | (refine CallG.intro (fun _ => hrc) (by simp) (by simp) ?_; try simp )
        | ((with_reducible refine PreK.intro ?_ ?_); (next => (first | omega | (intros; first | omega | (refine ⟨by omega, ?_⟩; repeat (first | assumption | constructor)) | assumption))); intro _; try simp )
        | fail)
      refine CondK.intro (fun h2 => ?_) (fun h2 => ?_)
      · try simp 
        repeat' (first
          | ((with_reducible refine PreK.intro ?_ ?_); (next => (first | omega | (intros; first | omega | (refine ⟨by omega, ?_⟩; repeat (first | assumption | constructor)) | assumption))); intro _; try simp )
          | fail)
      · simp at h2
    | some g =>
      rw [hg] at hrc
      have hok := reachG_ok (by unfold swErr; rw [if_neg (by simp [z1])]; exact z2) hg
      obtain ⟨ws, hD, hC⟩ := reachG_D hg
      have hnum := hok.num
      have hfl := hok.frm
      have hsl := hok.stp
      have hwl : ws.length = g.ws.length := by rw [hD.words]; simp
      simp only [reachV, graphV] at hrc
      try simp 
      repeat' (first
        | (refine CallX.pure (hrc) (by simp) (by simp) ?_; try simp )
        | (refine CallK.intro (hrc) (by simp) (by simp) ?_; try simp )
        | (refine CallG.intro (fun _ => hrc) (by simp) (by simp) ?_; try simp )
        | ((with_reducible refine PreK.intro ?_ ?_); (next => (first | omega | (intros; first | omega | (refine ⟨by omega, ?_⟩; repeat (first | assumption | constructor)) | assumption))); intro _; try simp )
        | fail)
      refine CondK.intro (fun h2 => ?_) (fun h2 => ?_)
      · simp at h2
      · try simp 
        repeat (refine PreK.intro (by first | omega | (intros; first | omega | (refine ⟨by omega, ?_⟩; simp_all; done) | (simp_all; done) | (simp_all; omega))) fun _ => ?_; (try simp ))
        by_cases hmem : v ∈ g.ws
        · obtain ⟨q, q1, q2, q3⟩ := mfind_some (k := 0) (j := 0) (fun x hx => fine_of (hok.fine x hx)) hmem
          obtain ⟨q', p1, p2, p3⟩ := findI_spec hmem
          have hqq : q' = q := by
            refine nodup_at ?_ p1 q1 (by rw [p3, q2])
            rw [hD.words]; exact hC.nodup
          subst hqq
          have hPR : PathR s w v = if 60 < (backM g 301 q').length then ([], false, 0) else ((backM g 301 q').reverse, true, 0) := by simp [PathR, h1, hg, hmem, p2]
          rw [hPR]
          have hBl : (backM g 301 q').length = (el ws q').2 := (backM_path hD hC.first 301 q' (by omega) (by omega)).1
          generalize hB : backM g 301 q' = B
          refine CallK.intro (by simpa using hkc) (by simp) (by simp) ?_
          try simp [q3, keysOK_ents]
          try simp [q3, keysOK_ents]
          repeat (refine PreK.intro (by first | omega | (intros; first | omega | (refine ⟨by omega, ?_⟩; simp_all; done) | (simp_all; done) | (simp_all; omega))) fun _ => ?_; (try simp [q3, keysOK_ents]))
          refine CondK.intro (fun h3 => ?_) (fun h3 => ?_)
          · simp at h3
          · try simp 
            refine LoopK.by (ι := Nat × List Step) (fun x => ⟨[(10, .ipt (graphV s g) 0), (12, iv x.1), (14, .sl 14 (x.2.length + 1) 0 x.2.length)], [(14, some ⟨2, x.2.map stepV, x.2.length + 1, false⟩)]⟩) (fun x => x.1)
              (fun x => x.1 < g.ws.length ∧ x.2.length + x.1 ≤ 300 ∧ x.2 ++ backM g 301 x.1 = B) (q', []) ⟨by dsimp only; omega, by simp; omega, by simpa using hB⟩ (by simp [graphV]) ?_
            intro ⟨i, acc⟩ Q' ⟨hi, hal, hc⟩ hq he hr
            dsimp only at hi hal hc
            simp only [graphV]
            have hif : i < g.frm.length := by omega
            have his : i < g.stp.length := by omega
            rw [backM] at hc
            try simp [hif, his]
            repeat (refine PreK.intro (by first | omega | (intros; first | omega | (refine ⟨by omega, ?_⟩; simp_all; done) | (simp_all; done) | (simp_all; omega))) fun _ => ?_; (try simp [hif, his]))
            refine CondK.intro (fun h4 => ?_) (fun h4 => ?_)
            · simp [hif] at h4
              rw [if_neg (by omega)] at hc
              have hi0 : i ≠ 0 := by
                intro e
                rw [e, hD.root (by omega)] at h4; omega
              obtain ⟨k, k1, k2, k3, k4⟩ := hD.back i (by omega) (by omega)
              have hkk : backM g 300 k = backM g 301 k := backM_more g hD 300 301 k (by omega) (by omega) (by omega)
              rw [k1, Int.toNat_natCast, hkk] at hc
              try simp [hif, his, k1]
              repeat (refine PreK.intro (by first | omega | (intros; first | omega | (refine ⟨by omega, ?_⟩; simp_all; done) | (simp_all; done) | (simp_all; omega))) fun _ => ?_; (try simp [hif, his, k1]))
              refine hq (k, acc ++ [el g.stp i]) _ ⟨by dsimp only; omega, by simp; omega, by simpa using hc⟩ (by dsimp only; omega) (by simp [graphV, hif, k1])
            · simp [hif] at h4
              rw [if_pos (by omega)] at hc
              simp only [List.append_nil] at hc
              subst hc
              try simp 
              apply he
              try simp 
              repeat' (first
                | ((with_reducible refine PreK.intro ?_ ?_); (next => (first | omega | (intros; first | omega | (refine ⟨by omega, ?_⟩; repeat (first | assumption | constructor)) | assumption))); intro _; try simp )
                | fail)
              refine CondK.intro (fun h5 => ?_) (fun h5 => ?_)
              · simp at h5
                have h5' : 60 < acc.length := by omega
                simp [h5']
              · simp at h5
                have hrv := reverse_L acc (by omega)
                rw [if_neg (by omega)]
                try simp 
                refine CallX.lend [] (id := 14) (ver := acc.length + 1) (n := acc.length) (b := ⟨2, acc.map stepV, acc.length + 1, false⟩) [] (.val (.tup [])) _ (by simp) (by simp) (by simp) (by simp) (by simp) (by simp) (by simp) (by simpa using hrv) ?_
                try simp 
                exact List.take_of_length_le (by simp)
        · have q3 := mfind_none (k := 0) (j := 0) (fun x hx => fine_of (hok.fine x hx)) (fine_of z3) hmem
          have hPR : PathR s w v = ([], false, 0) := by simp [PathR, h1, hg, hmem]
          rw [hPR]
          refine CallK.intro (by simpa using hkc) (by simp) (by simp) ?_
          try simp [q3, keysOK_ents]
          try simp [q3, keysOK_ents]
          repeat (refine PreK.intro (by first | omega | (intros; first | omega | (refine ⟨by omega, ?_⟩; simp_all; done) | (simp_all; done) | (simp_all; omega))) fun _ => ?_; (try simp [q3, keysOK_ents]))
          refine CondK.intro (fun h3 => ?_) (fun h3 => ?_)
          · try simp 
            repeat' (first
              | ((with_reducible refine PreK.intro ?_ ?_); (next => (first | omega | (intros; first | omega | (refine ⟨by omega, ?_⟩; repeat (first | assumption | constructor)) | assumption))); intro _; try simp )
              | fail)
          · simp at h3
def FarR (s : List Rule) (w v : Word) : Int × Bool × Int :=
  if checkErr s [w, v] ≠ 0 then (0, false, checkErr s [w, v]) else match rreachG s w with
  | none => (0, false, 3)
  | some g => if v ∈ g.ws then (if 60 < el g.far (findI g.ws v).toNat then (0, false, 0) else (el g.far (findI g.ws v).toNat, true, 0)) else (0, false, 0)
theorem rreachG_pos {s : List Rule} {w : Word} {g : RG} (e : rreachG s w = some g) : 0 < g.ws.length := by
  have h := rreachG_F s w
  rw [e] at h
  cases hc : closeM (nxR s) w with
  | none => rw [hc] at h; exact h.elim
  | some ws =>
    rw [hc] at h
    obtain ⟨l, hl⟩ := (closeM_some hc).first
    rw [h.1.words, hl]; simp
theorem Far_c (s : List Rule) (w v : List Int) (h : Sys.small s) (hw : w.length ≤ 1000) (hv : v.length ≤ 1000) :
    CallP Try.prog 99 [rulesV s, ints w, ints v] (.tup [iv (FarR s w v).1, bv (FarR s w v).2.1, iv (FarR s w v).2.2]) := by
  refine C99 (by simp) ?_
  have hck := rworded_c s w v h hw hv
  simp [A99]
  try simp 
  repeat' (first
    | (refine CallX.pure (hck) (by simp) (by simp) ?_; try simp )
    | (refine CallK.intro (hck) (by simp) (by simp) ?_; try simp )
    | (refine CallG.intro (fun _ => hck) (by simp) (by simp) ?_; try simp )
    | ((with_reducible refine PreK.intro ?_ ?_); (next => (first | omega | (intros; first | omega | (refine ⟨by omega, ?_⟩; repeat (first | assumption | constructor)) | assumption))); intro _; try simp )
    | fail)
  refine CondK.intro (fun h1 => ?_) (fun h1 => ?_)
  · simp at h1
    simp [FarR, h1]
  · simp at h1
    obtain ⟨z1, z2, z3⟩ := checkErr_two h1
    have h0 : swErr s w = 0 := by unfold swErr; rw [if_neg (by simp [z1])]; exact z2
    have hgc := graphed_c s w h hw
    unfold rgraphedV at hgc
    simp only [h0, ne_eq, not_true_eq_false, if_false] at hgc
    cases hg : rreachG s w with
    | none =>
      rw [hg] at hgc
      have e2 : FarR s w v = (0, false, 3) := by simp [FarR, h1, hg]
      rw [e2]
      simp only [rzeroV] at hgc
      try simp 
      repeat' (first
        | (refine CallX.pure (hgc) (by simp) (by simp) ?_; try simp )
        | (refine CallK.intro (hgc) (by simp) (by simp) ?_; try simp )
        | (refine CallG.intro (fun _ => hgc) (by simp) (by simp) ?_; try simp )
        | ((with_reducible refine PreK.intro ?_ ?_); (next => (first | omega | (intros; first | omega | (refine ⟨by omega, ?_⟩; repeat (first | assumption | constructor)) | assumption))); intro _; try simp )
        | fail)
      refine CondK.intro (fun h2 => ?_) (fun h2 => ?_)
      · try simp 
        repeat' (first
          | ((with_reducible refine PreK.intro ?_ ?_); (next => (first | omega | (intros; first | omega | (refine ⟨by omega, ?_⟩; repeat (first | assumption | constructor)) | assumption))); intro _; try simp )
          | fail)
      · simp at h2
    | some g =>
      rw [hg] at hgc
      have hok := rreachG_ok h0 hg
      have hnum := hok.num
      have hfl := hok.far
      have hfc := find_c g.ws v (by omega) (fun x hx => by have := (wordErr_zero (hok.fine x hx)).1; omega)
      simp only [rgraphV] at hgc
      try simp 
      repeat' (first
        | (refine CallX.pure (hgc) (by simp) (by simp) ?_; try simp )
        | (refine CallK.intro (hgc) (by simp) (by simp) ?_; try simp )
        | (refine CallG.intro (fun _ => hgc) (by simp) (by simp) ?_; try simp )
        | ((with_reducible refine PreK.intro ?_ ?_); (next => (first | omega | (intros; first | omega | (refine ⟨by omega, ?_⟩; repeat (first | assumption | constructor)) | assumption))); intro _; try simp )
        | fail)
      refine CondK.intro (fun h2 => ?_) (fun h2 => ?_)
      · simp at h2
      · by_cases hmem : v ∈ g.ws
        · obtain ⟨q, p1, p2, p3⟩ := findI_spec hmem
          have hqf : q < g.far.length := by omega
          have hFR : FarR s w v = if 60 < el g.far q then (0, false, 0) else (el g.far q, true, 0) := by simp [FarR, h1, hg, hmem, p2]
          rw [hFR]
          rw [p2] at hfc
          try simp [hqf]
          repeat' (first
            | (refine CallX.pure (hfc) (by simp) (by simp) ?_; try simp [hqf])
            | (refine CallK.intro (hfc) (by simp) (by simp) ?_; try simp [hqf])
            | (refine CallG.intro (fun _ => hfc) (by simp) (by simp) ?_; try simp [hqf])
            | ((with_reducible refine PreK.intro ?_ ?_); (next => (first | omega | (intros; first | omega | (refine ⟨by omega, ?_⟩; repeat (first | assumption | constructor)) | assumption))); intro _; try simp [hqf])
            | fail)
          refine CondK.intro (fun h3 => ?_) (fun h3 => ?_)
          · simp [hqf] at h3
            rw [if_pos (by omega)]
            try simp 
          · simp [hqf] at h3
            rw [if_neg (by omega)]
            try simp [hqf]
            repeat' (first
              | ((with_reducible refine PreK.intro ?_ ?_); (next => (first | omega | (intros; first | omega | (refine ⟨by omega, ?_⟩; repeat (first | assumption | constructor)) | assumption))); intro _; try simp [hqf])
              | fail)
        · have hFR : FarR s w v = (0, false, 0) := by simp [FarR, h1, hg, hmem]
          rw [hFR]
          rw [findI_no hmem] at hfc
          have h00 : 0 < g.far.length := by have := rreachG_pos hg; omega
          try simp [h00]
          repeat' (first
            | (refine CallX.pure (hfc) (by simp) (by simp) ?_; try simp [h00])
            | (refine CallK.intro (hfc) (by simp) (by simp) ?_; try simp [h00])
            | (refine CallG.intro (fun _ => hfc) (by simp) (by simp) ?_; try simp [h00])
            | ((with_reducible refine PreK.intro ?_ ?_); (next => (first | omega | (intros; first | omega | (refine ⟨by omega, ?_⟩; repeat (first | assumption | constructor)) | assumption))); intro _; try simp [h00])
            | fail)
          refine CondK.intro (fun h3 => ?_) (fun h3 => ?_)
          · try simp 
            repeat' (first
              | ((with_reducible refine PreK.intro ?_ ?_); (next => (first | omega | (intros; first | omega | (refine ⟨by omega, ?_⟩; repeat (first | assumption | constructor)) | assumption))); intro _; try simp )
              | fail)
          · simp at h3
theorem finds_law {s : List Rule} {w v : Word} : (PathR s w v).2 = (FarR s w v).2 ∧ ((PathR s w v).2.1 = false → (PathR s w v).1 = []) ∧
    ((PathR s w v).2.1 = true → CkPath s w (PathR s w v).1 = (v, (FarR s w v).1, 0)) ∧ (PathR s w v).1.length ≤ 60 := by
  unfold PathR FarR
  by_cases h1 : checkErr s [w, v] = 0
  · simp only [h1, ne_eq, not_true_eq_false, if_false]
    obtain ⟨z1, z2, z3⟩ := checkErr_two h1
    have h0 : swErr s w = 0 := by unfold swErr; rw [if_neg (by simp [z1])]; exact z2
    have hs := graphs_same s w
    cases hg : reachG s w with
    | none =>
      cases hr : rreachG s w with
      | none => simp
      | some r => rw [hg, hr] at hs; exact hs.elim
    | some g =>
      cases hr : rreachG s w with
      | none => rw [hg, hr] at hs; exact hs.elim
      | some r =>
        rw [hg, hr] at hs
        obtain ⟨ws, rs, g1, g2, g3, g4, g5⟩ := hs
        have hmm : v ∈ g.ws ↔ v ∈ r.ws := by
          rw [g1.words, g2.words, List.mem_map, List.mem_map]
          exact ⟨fun ⟨y, hy, e⟩ => ⟨y, (g5 y).1 hy, e⟩, fun ⟨y, hy, e⟩ => ⟨y, (g5 y).2 hy, e⟩⟩
        dsimp only
        by_cases hm : v ∈ g.ws
        · have hm2 := hmm.1 hm
          rw [if_pos hm, if_pos hm2]
          obtain ⟨i, i1, i2, i3⟩ := findI_spec hm
          obtain ⟨j, j1, j2, j3⟩ := findI_spec hm2
          rw [i2, j2, Int.toNat_natCast, Int.toNat_natCast]
          have li : i < ws.length := by rw [g1.words] at i1; simpa using i1
          have lj : j < rs.length := by rw [g2.words] at j1; simpa using j1
          have ei : (el ws i).1 = v := by rw [← i3, g1.words, el_mapG _ _ li]
          have ej : (el rs j).1 = v := by rw [← j3, g2.words, el_mapG _ _ lj]
          have hfar := same_far g4.nodup g5 li lj (by rw [ei, ej])
          have hl300 := g3.len
          obtain ⟨b1, b2⟩ := backM_path g1 g3.first 301 i (by omega) li
          have hf : el r.far j = (((el ws i).2 : Nat) : Int) := by rw [g2.far, el_mapG _ _ lj, hfar]
          rw [hf]
          by_cases h60 : 60 < (backM g 301 i).length
          · rw [if_pos h60, if_pos (by omega)]
            simp
          · rw [if_neg h60, if_neg (by omega)]
            refine ⟨rfl, fun e => (by cases e), fun _ => ?_, by simp; omega⟩
            dsimp only
            have := b2 [] 0
            rw [List.append_nil] at this
            unfold CkPath
            rw [if_neg (by simp [h0]), if_neg (by simp; omega), this, ckP, ei]
            simp
        · have hm2 : v ∉ r.ws := fun e => hm (hmm.2 e)
          rw [if_neg hm, if_neg hm2]
          simp
  · simp [h1]
theorem lawFeedFinds_c (s : List Rule) (w v : List Int) (hb : s.length ≤ big) (hwb : w.length ≤ big) (hvb : v.length ≤ big) : CallP Try.prog 21 [rulesV s, ints w, ints v] (bv true) := by
  refine C21 (by simp) ?_
  simp [A21]
  refine CallX.pure (by simpa using long3_c s hb) (by simp) (by simp) ?_
  try simp 
  cases hl : longS s
  · have hs := longS_small hl
    by_cases h2 : 100 < w.length
    · try simp 
      repeat' (first
        | (refine CallX.pure (large3_c w) (by simp) (by simp) ?_; try simp )
        | (refine CallK.intro (large3_c w) (by simp) (by simp) ?_; try simp )
        | (refine CallG.intro (fun _ => large3_c w) (by simp) (by simp) ?_; try simp )
        | ((with_reducible refine PreK.intro ?_ ?_); (next => (first | omega | (intros; first | omega | (refine ⟨by omega, ?_⟩; repeat (first | assumption | constructor)) | assumption))); intro _; try simp )
        | fail)
      refine CallG.intro (r := bv true) (fun hh => by simp [h2] at hh) (by simp [h2]) (by simp) ?_
      try simp 
      refine CondK.intro (fun h3 => ?_) (fun h3 => ?_)
      · try simp 
        repeat' (first
          | (refine CallX.pure (known_c) (by simp) (by simp) ?_; try simp )
          | (refine CallK.intro (known_c) (by simp) (by simp) ?_; try simp )
          | (refine CallG.intro (fun _ => known_c) (by simp) (by simp) ?_; try simp )
          | ((with_reducible refine PreK.intro ?_ ?_); (next => (first | omega | (intros; first | omega | (refine ⟨by omega, ?_⟩; repeat (first | assumption | constructor)) | assumption))); intro _; try simp )
          | fail)
      · simp [h2] at h3
    · try simp 
      repeat' (first
        | (refine CallX.pure (large3_c w) (by simp) (by simp) ?_; try simp )
        | (refine CallK.intro (large3_c w) (by simp) (by simp) ?_; try simp )
        | (refine CallG.intro (fun _ => large3_c w) (by simp) (by simp) ?_; try simp )
        | (refine CallX.pure (large3_c v) (by simp) (by simp) ?_; try simp )
        | (refine CallK.intro (large3_c v) (by simp) (by simp) ?_; try simp )
        | (refine CallG.intro (fun _ => large3_c v) (by simp) (by simp) ?_; try simp )
        | ((with_reducible refine PreK.intro ?_ ?_); (next => (first | omega | (intros; first | omega | (refine ⟨by omega, ?_⟩; repeat (first | assumption | constructor)) | assumption))); intro _; try simp )
        | fail)
      refine CondK.intro (fun h3 => ?_) (fun h3 => ?_)
      · try simp 
        repeat' (first
          | (refine CallX.pure (known_c) (by simp) (by simp) ?_; try simp )
          | (refine CallK.intro (known_c) (by simp) (by simp) ?_; try simp )
          | (refine CallG.intro (fun _ => known_c) (by simp) (by simp) ?_; try simp )
          | ((with_reducible refine PreK.intro ?_ ?_); (next => (first | omega | (intros; first | omega | (refine ⟨by omega, ?_⟩; repeat (first | assumption | constructor)) | assumption))); intro _; try simp )
          | fail)
      · have hvn : v.length ≤ 100 := by simp [h2] at h3; omega
        have hw : w.length ≤ 1000 := by omega
        have hv : v.length ≤ 1000 := by omega
        have h4 := Path_c s w v hs hw hv
        have h5 := Far_c s w v hs hw hv
        obtain ⟨f1, f2, f3, f4⟩ := @finds_law s w v
        have h6 := fun hl => rCheckPath_c s w (PathR s w v).1 hs hw hl
        generalize PathR s w v = E at h4 h5 h6 f1 f2 f3 f4
        generalize FarR s w v = F at h5 f1 f3
        obtain ⟨E1, E2, E3⟩ := E
        obtain ⟨F1, F2, F3⟩ := F
        dsimp only at h4 h5 h6 f1 f2 f3 f4
        simp only [Prod.mk.injEq] at f1
        obtain ⟨rfl, rfl⟩ := f1
        try simp 
        repeat' (first
          | (refine CallX.pure (h4) (by simp) (by simp) ?_; try simp )
          | (refine CallK.intro (h4) (by simp) (by simp) ?_; try simp )
          | (refine CallG.intro (fun _ => h4) (by simp) (by simp) ?_; try simp )
          | (refine CallX.pure (h5) (by simp) (by simp) ?_; try simp )
          | (refine CallK.intro (h5) (by simp) (by simp) ?_; try simp )
          | (refine CallG.intro (fun _ => h5) (by simp) (by simp) ?_; try simp )
          | ((with_reducible refine PreK.intro ?_ ?_); (next => (first | omega | (intros; first | omega | (refine ⟨by omega, ?_⟩; repeat (first | assumption | constructor)) | assumption))); intro _; try simp )
          | fail)
        refine CondK.intro (fun h7 => ?_) (fun h7 => ?_)
        · simp at h7
        · cases E2
          · have := f2 rfl
            subst this
            try simp 
            refine CondK.intro (fun h8 => ?_) (fun h8 => ?_)
            · try simp 
              repeat' (first
                | (refine CallX.pure (known_c) (by simp) (by simp) ?_; try simp )
                | (refine CallK.intro (known_c) (by simp) (by simp) ?_; try simp )
                | (refine CallG.intro (fun _ => known_c) (by simp) (by simp) ?_; try simp )
                | ((with_reducible refine PreK.intro ?_ ?_); (next => (first | omega | (intros; first | omega | (refine ⟨by omega, ?_⟩; repeat (first | assumption | constructor)) | assumption))); intro _; try simp )
                | fail)
            · simp at h8
          · have h6 := h6 (by omega)
            rw [f3 rfl] at h6
            try simp 
            refine CondK.intro (fun h8 => ?_) (fun h8 => ?_)
            · simp at h8
            · try simp 
              repeat' (first
                | (refine CallX.pure (h6) (by simp) (by simp) ?_; try simp )
                | (refine CallK.intro (h6) (by simp) (by simp) ?_; try simp )
                | (refine CallG.intro (fun _ => h6) (by simp) (by simp) ?_; try simp )
                | (refine CallX.pure (same1_c v v hvb) (by simp) (by simp) ?_; try simp )
                | (refine CallK.intro (same1_c v v hvb) (by simp) (by simp) ?_; try simp )
                | (refine CallG.intro (fun _ => same1_c v v hvb) (by simp) (by simp) ?_; try simp )
                | (refine CallX.pure (known_c) (by simp) (by simp) ?_; try simp )
                | (refine CallK.intro (known_c) (by simp) (by simp) ?_; try simp )
                | (refine CallG.intro (fun _ => known_c) (by simp) (by simp) ?_; try simp )
                | ((with_reducible refine PreK.intro ?_ ?_); (next => (first | omega | (intros; first | omega | (refine ⟨by omega, ?_⟩; repeat (first | assumption | constructor)) | assumption))); intro _; try simp )
                | fail)
  · try simp 
    repeat' (first
      | ((with_reducible refine PreK.intro ?_ ?_); (next => (first | omega | (intros; first | omega | (refine ⟨by omega, ?_⟩; repeat (first | assumption | constructor)) | assumption))); intro _; try simp )
      | fail)
    refine CallG.intro (r := bv true) (fun hh => by cases hh) (by simp) (by simp) ?_
    try simp 
    refine CallG.intro (r := bv true) (fun hh => by cases hh) (by simp) (by simp) ?_
    try simp 
    refine CondK.intro (fun h3 => ?_) (fun h3 => ?_)
    · try simp 
      repeat' (first
        | (refine CallX.pure (known_c) (by simp) (by simp) ?_; try simp )
        | (refine CallK.intro (known_c) (by simp) (by simp) ?_; try simp )
        | (refine CallG.intro (fun _ => known_c) (by simp) (by simp) ?_; try simp )
        | ((with_reducible refine PreK.intro ?_ ?_); (next => (first | omega | (intros; first | omega | (refine ⟨by omega, ?_⟩; repeat (first | assumption | constructor)) | assumption))); intro _; try simp )
        | fail)
    · simp at h3
end Go.Proofs.Ytaooenmkofjafaa
end

section
/- Plain: a system without a rule. -/
namespace Go.Proofs.Ytaooenmkofjafaa
open Go.Abs Go

/-- The words to which a rule leads. -/
def wordsR (w : Word) (r : Rule) : List Word := (movesR r w 0 0 (w.length + 1)).map (·.word)
theorem movesR_words (r : Rule) (w : Word) (k j : Nat) : ∀ (n i : Nat), (movesR r w k i n).map (·.word) = (movesR r w j i n).map (·.word)
  | 0, i => rfl
  | n + 1, i => by
    simp only [movesR, List.map_append, movesR_words r w k j n (i + 1)]
    congr 1
    unfold moveAt
    split <;> rfl
theorem movesF_words (w : Word) : ∀ (s : List Rule) (k : Nat), (movesF w k s).map (·.word) = s.flatMap (wordsR w)
  | [], k => rfl
  | r :: s, k => by
    simp only [movesF, List.map_append, List.flatMap_cons, movesF_words w s (k + 1)]
    congr 1
    exact movesR_words r w k 0 _ _
theorem nxP_flat (s : List Rule) (w : Word) : nxP s w = s.flatMap (wordsR w) := movesF_words w s 0
/-- Which rules are in the steps of a word. -/
def hasRule (s : List Rule) (k : Nat) (u : Word) : Bool := (movesM s u).any fun m => decide (m.step.rule = (k : Int))
theorem movesF_rule (w : Word) : ∀ (s : List Rule) (b i : Nat), i < s.length → wordsR w (el s i) ≠ [] → ∃ m ∈ movesF w b s, m.step.rule = ((b + i : Nat) : Int)
  | [], b, i, hi, _ => by simp at hi
  | r :: s, b, 0, _, h => by
    have e : el (r :: s) 0 = r := rfl
    rw [e] at h
    have h2 : (movesR r w b 0 (w.length + 1)).map (·.word) ≠ [] := by rw [movesR_words r w b 0]; exact h
    cases hm : movesR r w b 0 (w.length + 1) with
    | nil => rw [hm] at h2; exact absurd rfl h2
    | cons m l =>
      refine ⟨m, ?_, ?_⟩
      · rw [movesF, hm]; simp
      · have := (movesR_mem (r := r) (w := w) (k := b) (w.length + 1) 0 m (by rw [hm]; simp)).1
        simpa using this
  | r :: s, b, i + 1, hi, h => by
    have e : el (r :: s) (i + 1) = el s i := by simp [el]
    rw [e] at h
    obtain ⟨m, h1, h2⟩ := movesF_rule w s (b + 1) i (by simpa using hi) h
    refine ⟨m, ?_, by rw [h2]; congr 1; omega⟩
    rw [movesF]
    exact List.mem_append.2 (.inr h1)
theorem unused_words {s : List Rule} {k : Nat} {u : Word} (hk : k < s.length) (h : hasRule s k u = false) : wordsR u (el s k) = [] := by
  apply Classical.byContradiction
  intro hne
  obtain ⟨m, h1, h2⟩ := movesF_rule u s 0 k hk hne
  unfold hasRule at h
  rw [List.any_eq_false] at h
  have := h m h1
  simp [h2] at this
theorem mem_eraseIdx {α : Type} [Inhabited α] {s : List α} {k : Nat} (hk : k < s.length) {x : α} (h : x ∈ s) : x ∈ s.eraseIdx k ∨ x = el s k := by
  rw [List.eraseIdx_eq_take_drop_succ]
  have : s = s.take k ++ el s k :: s.drop (k + 1) := by
    rw [← drop_cons s k hk, List.take_append_drop]
  rw [this] at h
  rcases List.mem_append.1 h with h | h
  · exact .inl (List.mem_append.2 (.inl h))
  · rcases List.mem_cons.1 h with h | h
    · exact .inr h
    · exact .inl (List.mem_append.2 (.inr h))
theorem nxP_less {s : List Rule} {k : Nat} {u x : Word} (h : x ∈ nxP (s.eraseIdx k) u) : x ∈ nxP s u := by
  rw [nxP_flat] at h ⊢
  obtain ⟨r, hr, hx⟩ := List.mem_flatMap.1 h
  exact List.mem_flatMap.2 ⟨r, List.mem_of_mem_eraseIdx hr, hx⟩
theorem nxP_kept {s : List Rule} {k : Nat} (hk : k < s.length) {u x : Word} (hu : hasRule s k u = false) (h : x ∈ nxP s u) : x ∈ nxP (s.eraseIdx k) u := by
  rw [nxP_flat] at h ⊢
  obtain ⟨r, hr, hx⟩ := List.mem_flatMap.1 h
  rcases mem_eraseIdx hk hr with h1 | h1
  · exact List.mem_flatMap.2 ⟨r, h1, hx⟩
  · rw [h1, unused_words hk hu] at hx
    cases hx
/-- What is reached by fewer steps is found by fewer. -/
theorem closeM_sub {nx nx' : Word → List Word} {w : Word} {ws : List WN} (h : closeM nx w = some ws) (hsub : ∀ n x, ReachN nx' w n x → ∃ m, ReachN nx w m x) :
    ∃ ws', closeM nx' w = some ws' ∧ ∀ x ∈ ws'.map (·.1), x ∈ ws.map (·.1) := by
  have hc := closeM_some h
  cases h' : closeM nx' w with
  | none =>
    exfalso
    obtain ⟨m, h1, h2, h3⟩ := closeM_none h'
    have := nodup_le' (m := ws.map (·.1)) h1 fun x hx => by
      obtain ⟨k, hk⟩ := h3 x hx
      obtain ⟨j, hj⟩ := hsub k x hk
      obtain ⟨z, hz, e, _⟩ := hc.all j x hj
      exact List.mem_map.2 ⟨z, hz, e⟩
    have hl := hc.len
    rw [List.length_map, h2] at this
    omega
  | some ws' =>
    refine ⟨ws', rfl, fun x hx => ?_⟩
    obtain ⟨y, hy, rfl⟩ := List.mem_map.1 hx
    obtain ⟨j, hj⟩ := hsub _ _ ((closeM_some h').reach y hy)
    obtain ⟨z, hz, e, _⟩ := hc.all j _ hj
    exact List.mem_map.2 ⟨z, hz, e⟩
theorem reachG_sub {s s' : List Rule} {w : Word} {g : Gr} (h : reachG s w = some g) (hsub : ∀ n x, ReachN (nxP s') w n x → ∃ m, ReachN (nxP s) w m x) :
    ∃ g', reachG s' w = some g' ∧ ∀ x ∈ g'.ws, x ∈ g.ws := by
  have h1 := reachG_F s w
  rw [h] at h1
  cases hc : closeM (nxP s) w with
  | none => rw [hc] at h1; exact h1.elim
  | some ws =>
    rw [hc] at h1
    obtain ⟨ws', h2, h3⟩ := closeM_sub hc hsub
    have h4 := reachG_F s' w
    rw [h2] at h4
    cases hg : reachG s' w with
    | none => rw [hg] at h4; exact h4.elim
    | some g' =>
      rw [hg] at h4
      refine ⟨g', rfl, fun x hx => ?_⟩
      rw [h4.words] at hx
      rw [h1.words]
      exact h3 x hx
theorem reach_less {s : List Rule} {k : Nat} {w : Word} : ∀ (n : Nat) (x : Word), ReachN (nxP (s.eraseIdx k)) w n x → ReachN (nxP s) w n x := by
  intro n x h
  induction h with
  | zero => exact .zero
  | succ h hx ih => exact .succ ih (nxP_less hx)
theorem closed_mem {s : List Rule} {w : Word} {g : Gr} (h : reachG s w = some g) : (∀ n x, ReachN (nxP s) w n x → x ∈ g.ws) ∧ ∀ x ∈ g.ws, ∃ n, ReachN (nxP s) w n x := by
  have h1 := reachG_F s w
  rw [h] at h1
  cases hc : closeM (nxP s) w with
  | none => rw [hc] at h1; exact h1.elim
  | some ws =>
    rw [hc] at h1
    have hcl := closeM_some hc
    refine ⟨fun n x hx => ?_, fun x hx => ?_⟩
    · obtain ⟨z, hz, e, _⟩ := hcl.all n x hx
      rw [h1.words]
      exact List.mem_map.2 ⟨z, hz, e⟩
    · rw [h1.words] at hx
      obtain ⟨y, hy, rfl⟩ := List.mem_map.1 hx
      exact ⟨_, hcl.reach y hy⟩
/-- Without a rule that is in no step the same words are reached. -/
theorem unused_same {s : List Rule} {k : Nat} {w : Word} {g : Gr} (hk : k < s.length) (h : reachG s w = some g) (hu : ∀ u ∈ g.ws, hasRule s k u = false) : ∃ g', reachG (s.eraseIdx k) w = some g' ∧ ∀ x, x ∈ g'.ws ↔ x ∈ g.ws := by
  obtain ⟨g', h1, h2⟩ := reachG_sub h (s' := s.eraseIdx k) fun n x hx => ⟨n, reach_less n x hx⟩
  refine ⟨g', h1, fun x => ⟨h2 x, fun hx => ?_⟩⟩
  obtain ⟨n, hn⟩ := (closed_mem h).2 x hx
  have key : ReachN (nxP (s.eraseIdx k)) w n x := by
    clear hx
    induction hn with
    | zero => exact .zero
    | succ h3 h4 ih => exact .succ ih (nxP_kept hk (hu _ ((closed_mem h).1 _ _ h3)) h4)
  exact (closed_mem h1).1 _ _ key
end Go.Proofs.Ytaooenmkofjafaa
end
