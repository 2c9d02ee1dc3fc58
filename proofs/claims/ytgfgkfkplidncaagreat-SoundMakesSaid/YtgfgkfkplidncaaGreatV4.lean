/- Part 4 of the proof: the value layer and the contracts of the functions that the statement reaches; proved without conditions beyond those each theorem states. -/
import Derived.Shelf.SlSortCmp.Whole1
import Derived.Shelf.SlSortCmp.NoneTotal
import Derived.Test.YtgfgkfkplidncaaGreatProg
import Derived.Shelf.Sort.Plain
import Derived.Shelf.Slices.In.SortNone
import Derived.Shelf.SlSortCmp.WholeK
import Derived.Test.YtgfgkfkplidncaaGreatV3
set_option linter.unusedSimpArgs false
set_option linter.unusedVariables false

section
/- Functions of the cut as the value layer reads them. (written by gen.py) -/
set_option maxRecDepth 20000
namespace Go.Proofs.YtgfgkfkplidncaaGreat
open Go.Abs Go

def A61 : ACode :=
  (.seq (.reg [] [⟨some 2, (.assign (.const (.slice none 0 0))), 23, none⟩])
    (.seq (.reg [] [⟨some 3, (.assign (.const (.slice none 0 0))), 23, none⟩])
    (.seq (.seq (.reg [] [⟨some 4, (.assign (.const (.int .i64 0))), 3, none⟩])
    (.block 0 (.loop (.seq (.seq (.reg [] [⟨some 5, (.move (.tmp 4)), 3, none⟩,
      ⟨some 6, (.move (.tmp 0)), 22, none⟩,
      ⟨some 7, (.call ⟨(.builtin .len), #[(.tmp 6)], #[22]⟩), 3, none⟩,
      ⟨some 8, (.binOp .lss 3 (.tmp 5) (.tmp 7) 3), 4, none⟩])
    (.cond (.tmp 8)
    .skip
    (.exit 0)))
    (.seq (.block 1 (.reg [] [⟨some 11, (.move (.tmp 3)), 23, none⟩,
      ⟨some 12, (.move (.tmp 0)), 22, none⟩,
      ⟨some 13, (.move (.tmp 4)), 3, none⟩,
      ⟨some 14, (.indexAddr 22 (.tmp 12) (.tmp 13)), 0, none⟩,
      ⟨some 15, (.load 23 (.tmp 14)), 23, none⟩,
      ⟨some 16, (.call ⟨(.builtin .append), #[(.tmp 11), (.tmp 15)], #[23, 23]⟩), 23, none⟩,
      ⟨some 3, (.assign (.tmp 16)), 23, none⟩]))
    (.reg [] [⟨some 9, (.move (.tmp 4)), 3, none⟩,
      ⟨some 10, (.binOp .add 3 (.tmp 9) (.const (.int .i64 1)) 3), 3, none⟩,
      ⟨some 4, (.assign (.tmp 10)), 3, none⟩]))))))
    (.seq (.reg [] [⟨some 17, (.move (.tmp 3)), 23, none⟩,
      ⟨some 2, (.assign (.tmp 17)), 23, none⟩])
    .ret))))
theorem C61 {args : List AV} {r : AV} (hn : args.length ≤ 18) (h : vc Tryz.prog T [] A61 (Fin T [(.tmp 2)] r) ⟨envOf 0 args, []⟩) : CallP Tryz.prog 61 args r :=
  callP_of tok mixed Tryz.func61 (by kernel_rfl) (by kernel_rfl) (by kernel_rfl : Tryz.f61.ntmps = 18) (by kernel_rfl : Tryz.f61.body.bind (strip 18 (fun _ => [])) = some A61) hn h
def A50 : ACode :=
  (.seq (.reg [] [⟨some 2, (.assign (.const (.int .i64 0))), 28, none⟩])
    (.seq (.seq (.reg [] [⟨some 7, (.move (.tmp 0)), 22, none⟩,
      ⟨some 8, (.call ⟨(.builtin .len), #[(.tmp 7)], #[22]⟩), 3, none⟩,
      ⟨some 9, (.call ⟨(.value (.func 76)), #[(.tmp 8), (.const (.int .i64 1)), (.const (.int .i64 6))], #[3, 3, 3]⟩), 4, none⟩,
      ⟨some 10, (.unOp .not 4 (.tmp 9)), 4, none⟩])
    (.cond (.tmp 10)
    (.seq (.reg [] [⟨some 2, (.assign (.const (.int .i64 3))), 28, none⟩])
    .ret)
    .skip))
    (.seq (.seq (.reg [] [⟨some 3, (.assign (.const (.int .i64 0))), 3, none⟩])
    (.block 0 (.loop (.seq (.seq (.reg [] [⟨some 11, (.move (.tmp 3)), 3, none⟩,
      ⟨some 12, (.move (.tmp 0)), 22, none⟩,
      ⟨some 13, (.call ⟨(.builtin .len), #[(.tmp 12)], #[22]⟩), 3, none⟩,
      ⟨some 14, (.binOp .lss 3 (.tmp 11) (.tmp 13) 3), 4, none⟩])
    (.cond (.tmp 14)
    .skip
    (.exit 0)))
    (.seq (.block 1 (.seq (.seq (.reg [] [⟨some 17, (.move (.tmp 0)), 22, none⟩,
      ⟨some 18, (.move (.tmp 3)), 3, none⟩,
      ⟨some 19, (.indexAddr 22 (.tmp 17) (.tmp 18)), 0, none⟩,
      ⟨some 20, (.load 23 (.tmp 19)), 23, none⟩,
      ⟨some 21, (.call ⟨(.builtin .len), #[(.tmp 20)], #[23]⟩), 3, none⟩,
      ⟨some 22, (.binOp .eql 3 (.tmp 21) (.const (.int .i64 0)) 3), 4, none⟩])
    (.cond (.tmp 22)
    (.seq (.reg [] [⟨some 2, (.assign (.const (.int .i64 1))), 28, none⟩])
    .ret)
    .skip))
    (.seq (.reg [] [⟨some 4, (.assign (.const (.int .i64 0))), 3, none⟩])
    (.block 2 (.loop (.seq (.seq (.reg [] [⟨some 23, (.move (.tmp 4)), 3, none⟩,
      ⟨some 24, (.move (.tmp 0)), 22, none⟩,
      ⟨some 25, (.move (.tmp 3)), 3, none⟩,
      ⟨some 26, (.indexAddr 22 (.tmp 24) (.tmp 25)), 0, none⟩,
      ⟨some 27, (.load 23 (.tmp 26)), 23, none⟩,
      ⟨some 28, (.call ⟨(.builtin .len), #[(.tmp 27)], #[23]⟩), 3, none⟩,
      ⟨some 29, (.binOp .lss 3 (.tmp 23) (.tmp 28) 3), 4, none⟩])
    (.cond (.tmp 29)
    .skip
    (.exit 2)))
    (.seq (.block 3 (.seq (.reg [] [⟨some 32, (.move (.tmp 0)), 22, none⟩,
      ⟨some 33, (.move (.tmp 3)), 3, none⟩,
      ⟨some 34, (.indexAddr 22 (.tmp 32) (.tmp 33)), 0, none⟩,
      ⟨some 35, (.load 23 (.tmp 34)), 23, none⟩,
      ⟨some 36, (.move (.tmp 4)), 3, none⟩,
      ⟨some 37, (.indexAddr 23 (.tmp 35) (.tmp 36)), 0, none⟩,
      ⟨some 38, (.load 3 (.tmp 37)), 3, none⟩,
      ⟨some 39, (.call ⟨(.value (.func 76)), #[(.tmp 38), (.const (.int .i64 0)), (.const (.int .i64 5))], #[3, 3, 3]⟩), 4, none⟩,
      ⟨some 40, (.unOp .not 4 (.tmp 39)), 4, none⟩])
    (.cond (.tmp 40)
    (.seq (.reg [] [⟨some 2, (.assign (.const (.int .i64 1))), 28, none⟩])
    .ret)
    .skip)))
    (.reg [] [⟨some 30, (.move (.tmp 4)), 3, none⟩,
      ⟨some 31, (.binOp .add 3 (.tmp 30) (.const (.int .i64 1)) 3), 3, none⟩,
      ⟨some 4, (.assign (.tmp 31)), 3, none⟩]))))))))
    (.reg [] [⟨some 15, (.move (.tmp 3)), 3, none⟩,
      ⟨some 16, (.binOp .add 3 (.tmp 15) (.const (.int .i64 1)) 3), 3, none⟩,
      ⟨some 3, (.assign (.tmp 16)), 3, none⟩]))))))
    (.seq (.reg [] [⟨some 41, (.move (.tmp 0)), 22, none⟩,
      ⟨some 42, (.call ⟨(.value (.func 61)), #[(.tmp 41)], #[22]⟩), 23, none⟩,
      ⟨some 5, (.assign (.tmp 42)), 23, none⟩])
    (.seq (.seq (.reg [] [⟨some 6, (.assign (.const (.int .i64 0))), 3, none⟩])
    (.block 4 (.loop (.seq (.seq (.reg [] [⟨some 43, (.move (.tmp 6)), 3, none⟩,
      ⟨some 44, (.move (.tmp 5)), 23, none⟩,
      ⟨some 45, (.call ⟨(.builtin .len), #[(.tmp 44)], #[23]⟩), 3, none⟩,
      ⟨some 46, (.binOp .lss 3 (.tmp 43) (.tmp 45) 3), 4, none⟩])
    (.cond (.tmp 46)
    .skip
    (.exit 4)))
    (.seq (.block 5 (.seq (.draw [] [⟨some 49, (.move (.tmp 5)), 23, none⟩,
      ⟨some 50, (.move (.tmp 6)), 3, none⟩,
      ⟨some 51, (.slice 23 (.tmp 49) none (some (.tmp 50)) none), 23, none⟩,
      ⟨some 52, (.move (.tmp 5)), 23, none⟩,
      ⟨some 53, (.move (.tmp 6)), 3, none⟩,
      ⟨some 54, (.indexAddr 23 (.tmp 52) (.tmp 53)), 0, none⟩,
      ⟨some 55, (.load 3 (.tmp 54)), 3, none⟩,
      ⟨some 56, (.call ⟨(.value (.func 80)), #[(.tmp 51), (.tmp 55)], #[23, 3]⟩), 4, none⟩] [(0, 1), (0, 3), (1, 3), (2, 3), (0, 4), (1, 4), (2, 4), (3, 4), (0, 5), (1, 5), (2, 5), (0, 6), (1, 6), (2, 6)])
    (.cond (.tmp 56)
    (.seq (.reg [] [⟨some 2, (.assign (.const (.int .i64 5))), 28, none⟩])
    .ret)
    .skip)))
    (.reg [] [⟨some 47, (.move (.tmp 6)), 3, none⟩,
      ⟨some 48, (.binOp .add 3 (.tmp 47) (.const (.int .i64 1)) 3), 3, none⟩,
      ⟨some 6, (.assign (.tmp 48)), 3, none⟩]))))))
    (.seq (.reg [] [⟨some 2, (.assign (.const (.int .i64 0))), 28, none⟩])
    .ret))))))
theorem C50 {args : List AV} {r : AV} (hn : args.length ≤ 57) (h : vc Tryz.prog T [] A50 (Fin T [(.tmp 2)] r) ⟨envOf 0 args, []⟩) : CallP Tryz.prog 50 args r :=
  callP_of tok mixed Tryz.func50 (by kernel_rfl) (by kernel_rfl) (by kernel_rfl : Tryz.f50.ntmps = 57) (by kernel_rfl : Tryz.f50.body.bind (strip 57 (fun _ => [])) = some A50) hn h
def A59 : ACode :=
  (.seq (.reg [] [⟨some 4, (.assign (.const (.int .i64 0))), 28, none⟩])
    (.seq (.seq (.reg [] [⟨some 6, (.move (.tmp 0)), 3, none⟩,
      ⟨some 7, (.call ⟨(.value (.func 76)), #[(.tmp 6), (.const (.int .i64 1)), (.const (.int .i64 6))], #[3, 3, 3]⟩), 4, none⟩,
      ⟨some 8, (.unOp .not 4 (.tmp 7)), 4, none⟩])
    (.cond (.tmp 8)
    (.seq (.reg [] [⟨some 4, (.assign (.const (.int .i64 1))), 28, none⟩])
    .ret)
    .skip))
    (.seq (.seq (.reg [] [⟨some 9, (.move (.tmp 1)), 22, none⟩,
      ⟨some 10, (.call ⟨(.builtin .len), #[(.tmp 9)], #[22]⟩), 3, none⟩,
      ⟨some 11, (.binOp .gtr 3 (.tmp 10) (.const (.int .i64 6)) 3), 4, none⟩])
    (.cond (.tmp 11)
    (.seq (.reg [] [⟨some 4, (.assign (.const (.int .i64 3))), 28, none⟩])
    .ret)
    .skip))
    (.seq (.seq (.reg [] [⟨some 5, (.assign (.const (.int .i64 0))), 3, none⟩])
    (.block 0 (.loop (.seq (.seq (.reg [] [⟨some 12, (.move (.tmp 5)), 3, none⟩,
      ⟨some 13, (.move (.tmp 1)), 22, none⟩,
      ⟨some 14, (.call ⟨(.builtin .len), #[(.tmp 13)], #[22]⟩), 3, none⟩,
      ⟨some 15, (.binOp .lss 3 (.tmp 12) (.tmp 14) 3), 4, none⟩])
    (.cond (.tmp 15)
    .skip
    (.exit 0)))
    (.seq (.block 1 (.seq (.reg [] [⟨some 18, (.move (.tmp 1)), 22, none⟩,
      ⟨some 19, (.move (.tmp 5)), 3, none⟩,
      ⟨some 20, (.indexAddr 22 (.tmp 18) (.tmp 19)), 0, none⟩,
      ⟨some 21, (.load 23 (.tmp 20)), 23, none⟩,
      ⟨some 22, (.call ⟨(.builtin .len), #[(.tmp 21)], #[23]⟩), 3, none⟩,
      ⟨some 23, (.binOp .eql 3 (.tmp 22) (.const (.int .i64 0)) 3), 4, none⟩,
      ⟨some 24, (.move (.tmp 23)), 4, none⟩,
      ⟨some 25, (.move (.tmp 1)), 22, some (24, false)⟩,
      ⟨some 26, (.move (.tmp 5)), 3, some (24, false)⟩,
      ⟨some 27, (.indexAddr 22 (.tmp 25) (.tmp 26)), 0, some (24, false)⟩,
      ⟨some 28, (.load 23 (.tmp 27)), 23, some (24, false)⟩,
      ⟨some 29, (.move (.tmp 0)), 3, some (24, false)⟩,
      ⟨some 30, (.binOp .sub 3 (.tmp 29) (.const (.int .i64 1)) 3), 3, some (24, false)⟩,
      ⟨some 31, (.call ⟨(.value (.func 51)), #[(.tmp 28), (.const (.int .i64 0)), (.tmp 30)], #[23, 3, 3]⟩), 4, some (24, false)⟩,
      ⟨some 32, (.unOp .not 4 (.tmp 31)), 4, some (24, false)⟩,
      ⟨some 33, (.pick (.tmp 24) (.const (.bool true)) (.tmp 32)), 4, none⟩])
    (.cond (.tmp 33)
    (.seq (.reg [] [⟨some 4, (.assign (.const (.int .i64 1))), 28, none⟩])
    .ret)
    .skip)))
    (.reg [] [⟨some 16, (.move (.tmp 5)), 3, none⟩,
      ⟨some 17, (.binOp .add 3 (.tmp 16) (.const (.int .i64 1)) 3), 3, none⟩,
      ⟨some 5, (.assign (.tmp 17)), 3, none⟩]))))))
    (.seq (.reg [] [⟨some 4, (.assign (.const (.int .i64 0))), 28, none⟩])
    .ret)))))
theorem C59 {args : List AV} {r : AV} (hn : args.length ≤ 34) (h : vc Tryz.prog T [] A59 (Fin T [(.tmp 4)] r) ⟨envOf 0 args, []⟩) : CallP Tryz.prog 59 args r :=
  callP_of tok mixed Tryz.func59 (by kernel_rfl) (by kernel_rfl) (by kernel_rfl : Tryz.f59.ntmps = 34) (by kernel_rfl : Tryz.f59.body.bind (strip 34 (fun _ => [])) = some A59) hn h
def A90 : ACode :=
  (.seq (.reg [] [⟨some 4, (.assign (.const (.int .i64 0))), 3, none⟩])
    (.seq (.seq (.reg [] [⟨some 5, (.assign (.const (.int .i64 0))), 3, none⟩])
    (.block 0 (.loop (.seq (.seq (.reg [] [⟨some 6, (.move (.tmp 5)), 3, none⟩,
      ⟨some 7, (.move (.tmp 0)), 22, none⟩,
      ⟨some 8, (.call ⟨(.builtin .len), #[(.tmp 7)], #[22]⟩), 3, none⟩,
      ⟨some 9, (.binOp .lss 3 (.tmp 6) (.tmp 8) 3), 4, none⟩])
    (.cond (.tmp 9)
    .skip
    (.exit 0)))
    (.seq (.block 1 (.seq (.reg [] [⟨some 12, (.move (.tmp 0)), 22, none⟩,
      ⟨some 13, (.move (.tmp 5)), 3, none⟩,
      ⟨some 14, (.indexAddr 22 (.tmp 12) (.tmp 13)), 0, none⟩,
      ⟨some 15, (.load 23 (.tmp 14)), 23, none⟩,
      ⟨some 16, (.move (.tmp 1)), 3, none⟩,
      ⟨some 17, (.call ⟨(.value (.func 80)), #[(.tmp 15), (.tmp 16)], #[23, 3]⟩), 4, none⟩])
    (.cond (.tmp 17)
    (.seq (.reg [] [⟨some 18, (.move (.tmp 5)), 3, none⟩,
      ⟨some 4, (.assign (.tmp 18)), 3, none⟩])
    .ret)
    .skip)))
    (.reg [] [⟨some 10, (.move (.tmp 5)), 3, none⟩,
      ⟨some 11, (.binOp .add 3 (.tmp 10) (.const (.int .i64 1)) 3), 3, none⟩,
      ⟨some 5, (.assign (.tmp 11)), 3, none⟩]))))))
    (.seq (.reg [] [⟨some 4, (.assign (.const (.int .i64 (-1)))), 3, none⟩])
    .ret)))
theorem C90 {args : List AV} {r : AV} (hn : args.length ≤ 19) (h : vc Tryz.prog T [] A90 (Fin T [(.tmp 4)] r) ⟨envOf 0 args, []⟩) : CallP Tryz.prog 90 args r :=
  callP_of tok mixed Tryz.func90 (by kernel_rfl) (by kernel_rfl) (by kernel_rfl : Tryz.f90.ntmps = 19) (by kernel_rfl : Tryz.f90.body.bind (strip 19 (fun _ => [])) = some A90) hn h
def A69 : ACode :=
  (.seq (.reg [] [⟨some 2, (.assign (.const (.slice none 0 0))), 23, none⟩])
    (.seq (.reg [] [⟨some 3, (.assign (.const (.slice none 0 0))), 23, none⟩])
    (.seq (.seq (.reg [] [⟨some 4, (.assign (.const (.int .i64 0))), 3, none⟩])
    (.block 0 (.loop (.seq (.seq (.reg [] [⟨some 5, (.move (.tmp 4)), 3, none⟩,
      ⟨some 6, (.binOp .lss 3 (.tmp 5) (.const (.int .i64 6)) 3), 4, none⟩])
    (.cond (.tmp 6)
    .skip
    (.exit 0)))
    (.seq (.block 1 (.seq (.reg [] [⟨some 9, (.move (.tmp 0)), 23, none⟩,
      ⟨some 10, (.move (.tmp 4)), 3, none⟩,
      ⟨some 11, (.call ⟨(.value (.func 80)), #[(.tmp 9), (.tmp 10)], #[23, 3]⟩), 4, none⟩])
    (.cond (.tmp 11)
    (.reg [] [⟨some 12, (.move (.tmp 3)), 23, none⟩,
      ⟨some 13, (.move (.tmp 4)), 3, none⟩,
      ⟨some 14, (.buildSlice 23 1 #[(0, (.tmp 13))]), 23, none⟩,
      ⟨some 15, (.call ⟨(.builtin .append), #[(.tmp 12), (.tmp 14)], #[23, 23]⟩), 23, none⟩,
      ⟨some 3, (.assign (.tmp 15)), 23, none⟩])
    .skip)))
    (.reg [] [⟨some 7, (.move (.tmp 4)), 3, none⟩,
      ⟨some 8, (.binOp .add 3 (.tmp 7) (.const (.int .i64 1)) 3), 3, none⟩,
      ⟨some 4, (.assign (.tmp 8)), 3, none⟩]))))))
    (.seq (.reg [] [⟨some 16, (.move (.tmp 3)), 23, none⟩,
      ⟨some 2, (.assign (.tmp 16)), 23, none⟩])
    .ret))))
theorem C69 {args : List AV} {r : AV} (hn : args.length ≤ 17) (h : vc Tryz.prog T [] A69 (Fin T [(.tmp 2)] r) ⟨envOf 0 args, []⟩) : CallP Tryz.prog 69 args r :=
  callP_of tok mixed Tryz.func69 (by kernel_rfl) (by kernel_rfl) (by kernel_rfl : Tryz.f69.ntmps = 17) (by kernel_rfl : Tryz.f69.body.bind (strip 17 (fun _ => [])) = some A69) hn h
def A53 : ACode :=
  (.seq (.reg [] [⟨some 3, (.box 62 (.tmp 1)), 0, none⟩,
      ⟨some 4, (.assign (.const (.slice none 0 0))), 23, none⟩])
    (.seq (.reg [] [⟨some 5, (.assign (.const (.slice none 0 0))), 23, none⟩])
    (.seq (.reg [] [⟨some 6, (.assign (.const (.bool false))), 4, none⟩])
    (.seq (.seq (.reg [] [⟨some 7, (.assign (.const (.int .i64 0))), 3, none⟩])
    (.block 0 (.loop (.seq (.seq (.reg [] [⟨some 9, (.move (.tmp 7)), 3, none⟩,
      ⟨some 10, (.fieldAddr 62 (.tmp 3) 1), 0, none⟩,
      ⟨some 11, (.load 3 (.tmp 10)), 3, none⟩,
      ⟨some 12, (.binOp .leq 3 (.tmp 9) (.tmp 11) 3), 4, none⟩])
    (.cond (.tmp 12)
    .skip
    (.exit 0)))
    (.seq (.block 1 (.seq (.reg [] [⟨some 8, (.assign (.const (.int .i64 0))), 3, none⟩])
    (.block 2 (.loop (.seq (.seq (.reg [] [⟨some 15, (.move (.tmp 8)), 3, none⟩,
      ⟨some 16, (.move (.tmp 0)), 22, none⟩,
      ⟨some 17, (.move (.tmp 7)), 3, none⟩,
      ⟨some 18, (.indexAddr 22 (.tmp 16) (.tmp 17)), 0, none⟩,
      ⟨some 19, (.load 23 (.tmp 18)), 23, none⟩,
      ⟨some 20, (.call ⟨(.builtin .len), #[(.tmp 19)], #[23]⟩), 3, none⟩,
      ⟨some 21, (.binOp .lss 3 (.tmp 15) (.tmp 20) 3), 4, none⟩])
    (.cond (.tmp 21)
    .skip
    (.exit 2)))
    (.seq (.block 3 (.seq (.draw [] [⟨some 24, (.move (.tmp 6)), 4, none⟩,
      ⟨some 25, (.move (.tmp 24)), 4, none⟩,
      ⟨some 26, (.move (.tmp 0)), 22, some (25, false)⟩,
      ⟨some 27, (.move (.tmp 7)), 3, some (25, false)⟩,
      ⟨some 28, (.indexAddr 22 (.tmp 26) (.tmp 27)), 0, some (25, false)⟩,
      ⟨some 29, (.load 23 (.tmp 28)), 23, some (25, false)⟩,
      ⟨some 30, (.move (.tmp 8)), 3, some (25, false)⟩,
      ⟨some 31, (.indexAddr 23 (.tmp 29) (.tmp 30)), 0, some (25, false)⟩,
      ⟨some 32, (.load 3 (.tmp 31)), 3, some (25, false)⟩,
      ⟨some 33, (.fieldAddr 62 (.tmp 3) 0), 0, some (25, false)⟩,
      ⟨some 34, (.load 3 (.tmp 33)), 3, some (25, false)⟩,
      ⟨some 35, (.binOp .eql 3 (.tmp 32) (.tmp 34) 3), 4, some (25, false)⟩,
      ⟨some 36, (.pick (.tmp 25) (.const (.bool true)) (.tmp 35)), 4, none⟩,
      ⟨some 6, (.assign (.tmp 36)), 4, none⟩] [(2, 3), (2, 6), (3, 6), (4, 6), (5, 6), (2, 9), (3, 9), (4, 9), (5, 9), (6, 9), (7, 9), (8, 9), (2, 10), (3, 10), (4, 10), (5, 10), (6, 10), (7, 10), (8, 10)])
    (.seq (.reg [] [⟨some 37, (.move (.tmp 6)), 4, none⟩])
    (.cond (.tmp 37)
    (.reg [] [⟨some 38, (.move (.tmp 5)), 23, none⟩,
      ⟨some 39, (.move (.tmp 0)), 22, none⟩,
      ⟨some 40, (.move (.tmp 7)), 3, none⟩,
      ⟨some 41, (.indexAddr 22 (.tmp 39) (.tmp 40)), 0, none⟩,
      ⟨some 42, (.load 23 (.tmp 41)), 23, none⟩,
      ⟨some 43, (.move (.tmp 8)), 3, none⟩,
      ⟨some 44, (.indexAddr 23 (.tmp 42) (.tmp 43)), 0, none⟩,
      ⟨some 45, (.load 3 (.tmp 44)), 3, none⟩,
      ⟨some 46, (.buildSlice 23 1 #[(0, (.tmp 45))]), 23, none⟩,
      ⟨some 47, (.call ⟨(.builtin .append), #[(.tmp 38), (.tmp 46)], #[23, 23]⟩), 23, none⟩,
      ⟨some 5, (.assign (.tmp 47)), 23, none⟩])
    .skip))))
    (.reg [] [⟨some 22, (.move (.tmp 8)), 3, none⟩,
      ⟨some 23, (.binOp .add 3 (.tmp 22) (.const (.int .i64 1)) 3), 3, none⟩,
      ⟨some 8, (.assign (.tmp 23)), 3, none⟩])))))))
    (.reg [] [⟨some 13, (.move (.tmp 7)), 3, none⟩,
      ⟨some 14, (.binOp .add 3 (.tmp 13) (.const (.int .i64 1)) 3), 3, none⟩,
      ⟨some 7, (.assign (.tmp 14)), 3, none⟩]))))))
    (.seq (.reg [] [⟨some 48, (.move (.tmp 5)), 23, none⟩,
      ⟨some 49, (.call ⟨(.value (.func 69)), #[(.tmp 48)], #[23]⟩), 23, none⟩,
      ⟨some 4, (.assign (.tmp 49)), 23, none⟩])
    .ret)))))
theorem C53 {args : List AV} {r : AV} (hn : args.length ≤ 50) (h : vc Tryz.prog T [] A53 (Fin T [(.tmp 4)] r) ⟨envOf 0 args, []⟩) : CallP Tryz.prog 53 args r :=
  callP_of tok mixed Tryz.func53 (by kernel_rfl) (by kernel_rfl) (by kernel_rfl : Tryz.f53.ntmps = 50) (by kernel_rfl : Tryz.f53.body.bind (strip 50 (fun _ => [])) = some A53) hn h
def A52 : ACode :=
  (.seq (.reg [] [⟨some 2, (.assign (.const (.slice none 0 0))), 27, none⟩])
    (.seq (.reg [] [⟨some 3, (.assign (.const (.slice none 0 0))), 27, none⟩])
    (.seq (.seq (.reg [] [⟨some 4, (.assign (.const (.int .i64 0))), 3, none⟩])
    (.block 0 (.loop (.seq (.seq (.reg [] [⟨some 7, (.move (.tmp 4)), 3, none⟩,
      ⟨some 8, (.binOp .lss 3 (.tmp 7) (.const (.int .i64 6)) 3), 4, none⟩])
    (.cond (.tmp 8)
    .skip
    (.exit 0)))
    (.seq (.block 1 (.seq (.reg [] [⟨some 11, (.move (.tmp 0)), 22, none⟩,
      ⟨some 12, (.move (.tmp 4)), 3, none⟩,
      ⟨some 13, (.call ⟨(.value (.func 90)), #[(.tmp 11), (.tmp 12)], #[22, 3]⟩), 3, none⟩,
      ⟨some 5, (.assign (.tmp 13)), 3, none⟩])
    (.seq (.reg [] [⟨some 14, (.move (.tmp 5)), 3, none⟩,
      ⟨some 15, (.binOp .geq 3 (.tmp 14) (.const (.int .i64 0)) 3), 4, none⟩])
    (.cond (.tmp 15)
    (.seq (.reg [] [⟨some 16, (.move (.tmp 5)), 3, none⟩,
      ⟨some 6, (.assign (.tmp 16)), 3, none⟩])
    (.block 2 (.loop (.seq (.seq (.reg [] [⟨some 17, (.move (.tmp 6)), 3, none⟩,
      ⟨some 18, (.move (.tmp 0)), 22, none⟩,
      ⟨some 19, (.call ⟨(.builtin .len), #[(.tmp 18)], #[22]⟩), 3, none⟩,
      ⟨some 20, (.binOp .lss 3 (.tmp 17) (.tmp 19) 3), 4, none⟩])
    (.cond (.tmp 20)
    .skip
    (.exit 2)))
    (.seq (.block 3 (.reg [] [⟨some 23, (.move (.tmp 3)), 27, none⟩,
      ⟨some 24, (.move (.tmp 4)), 3, none⟩,
      ⟨some 25, (.move (.tmp 6)), 3, none⟩,
      ⟨some 26, (.build 62 #[(0, (.tmp 24)), (1, (.tmp 25))]), 62, none⟩,
      ⟨some 27, (.buildSlice 27 1 #[(0, (.tmp 26))]), 27, none⟩,
      ⟨some 28, (.call ⟨(.builtin .append), #[(.tmp 23), (.tmp 27)], #[27, 27]⟩), 27, none⟩,
      ⟨some 3, (.assign (.tmp 28)), 27, none⟩]))
    (.reg [] [⟨some 21, (.move (.tmp 6)), 3, none⟩,
      ⟨some 22, (.binOp .add 3 (.tmp 21) (.const (.int .i64 1)) 3), 3, none⟩,
      ⟨some 6, (.assign (.tmp 22)), 3, none⟩]))))))
    .skip))))
    (.reg [] [⟨some 9, (.move (.tmp 4)), 3, none⟩,
      ⟨some 10, (.binOp .add 3 (.tmp 9) (.const (.int .i64 1)) 3), 3, none⟩,
      ⟨some 4, (.assign (.tmp 10)), 3, none⟩]))))))
    (.seq (.reg [] [⟨some 29, (.move (.tmp 3)), 27, none⟩,
      ⟨some 2, (.assign (.tmp 29)), 27, none⟩])
    .ret))))
theorem C52 {args : List AV} {r : AV} (hn : args.length ≤ 30) (h : vc Tryz.prog T [] A52 (Fin T [(.tmp 2)] r) ⟨envOf 0 args, []⟩) : CallP Tryz.prog 52 args r :=
  callP_of tok mixed Tryz.func52 (by kernel_rfl) (by kernel_rfl) (by kernel_rfl : Tryz.f52.ntmps = 30) (by kernel_rfl : Tryz.f52.body.bind (strip 30 (fun _ => [])) = some A52) hn h
def A15 : ACode :=
  (.seq (.reg [] [⟨some 4, (.assign (.const (.slice none 0 0))), 27, none⟩,
      ⟨some 5, (.assign (.const (.int .i64 0))), 28, none⟩])
    (.seq (.seq (.reg [] [⟨some 10, (.move (.tmp 0)), 22, none⟩,
      ⟨some 11, (.call ⟨(.value (.func 50)), #[(.tmp 10)], #[22]⟩), 28, none⟩,
      ⟨some 6, (.assign (.tmp 11)), 28, none⟩])
    (.seq (.reg [] [⟨some 12, (.move (.tmp 6)), 28, none⟩,
      ⟨some 13, (.binOp .neq 28 (.tmp 12) (.const (.int .i64 0)) 28), 4, none⟩])
    (.cond (.tmp 13)
    (.seq (.reg [] [⟨some 14, (.move (.tmp 6)), 28, none⟩,
      ⟨some 4, (.assign (.const (.slice none 0 0))), 27, none⟩,
      ⟨some 5, (.assign (.tmp 14)), 28, none⟩])
    .ret)
    .skip)))
    (.seq (.seq (.reg [] [⟨some 15, (.move (.tmp 1)), 23, none⟩,
      ⟨some 16, (.call ⟨(.value (.func 51)), #[(.tmp 15), (.const (.int .i64 0)), (.const (.int .i64 5))], #[23, 3, 3]⟩), 4, none⟩,
      ⟨some 17, (.unOp .not 4 (.tmp 16)), 4, none⟩])
    (.cond (.tmp 17)
    (.seq (.reg [] [⟨some 4, (.assign (.const (.slice none 0 0))), 27, none⟩,
      ⟨some 5, (.assign (.const (.int .i64 1))), 28, none⟩])
    .ret)
    .skip))
    (.seq (.reg [] [⟨some 7, (.assign (.const (.slice none 0 0))), 27, none⟩])
    (.seq (.reg [] [⟨some 18, (.move (.tmp 0)), 22, none⟩,
      ⟨some 19, (.call ⟨(.value (.func 52)), #[(.tmp 18)], #[22]⟩), 27, none⟩,
      ⟨some 8, (.assign (.tmp 19)), 27, none⟩])
    (.seq (.seq (.reg [] [⟨some 9, (.assign (.const (.int .i64 0))), 3, none⟩])
    (.block 0 (.loop (.seq (.seq (.reg [] [⟨some 20, (.move (.tmp 9)), 3, none⟩,
      ⟨some 21, (.move (.tmp 8)), 27, none⟩,
      ⟨some 22, (.call ⟨(.builtin .len), #[(.tmp 21)], #[27]⟩), 3, none⟩,
      ⟨some 23, (.binOp .lss 3 (.tmp 20) (.tmp 22) 3), 4, none⟩])
    (.cond (.tmp 23)
    .skip
    (.exit 0)))
    (.seq (.block 1 (.seq (.reg [] [⟨some 26, (.move (.tmp 0)), 22, none⟩,
      ⟨some 27, (.move (.tmp 8)), 27, none⟩,
      ⟨some 28, (.move (.tmp 9)), 3, none⟩,
      ⟨some 29, (.indexAddr 27 (.tmp 27) (.tmp 28)), 0, none⟩,
      ⟨some 30, (.load 62 (.tmp 29)), 62, none⟩,
      ⟨some 31, (.call ⟨(.value (.func 53)), #[(.tmp 26), (.tmp 30)], #[22, 62]⟩), 23, none⟩,
      ⟨some 32, (.move (.tmp 1)), 23, none⟩,
      ⟨some 33, (.call ⟨(.value (.func 41)), #[(.tmp 31), (.tmp 32)], #[23, 23]⟩), 4, none⟩])
    (.cond (.tmp 33)
    (.reg [] [⟨some 34, (.move (.tmp 7)), 27, none⟩,
      ⟨some 35, (.move (.tmp 8)), 27, none⟩,
      ⟨some 36, (.move (.tmp 9)), 3, none⟩,
      ⟨some 37, (.indexAddr 27 (.tmp 35) (.tmp 36)), 0, none⟩,
      ⟨some 38, (.load 62 (.tmp 37)), 62, none⟩,
      ⟨some 39, (.buildSlice 27 1 #[(0, (.tmp 38))]), 27, none⟩,
      ⟨some 40, (.call ⟨(.builtin .append), #[(.tmp 34), (.tmp 39)], #[27, 27]⟩), 27, none⟩,
      ⟨some 7, (.assign (.tmp 40)), 27, none⟩])
    .skip)))
    (.reg [] [⟨some 24, (.move (.tmp 9)), 3, none⟩,
      ⟨some 25, (.binOp .add 3 (.tmp 24) (.const (.int .i64 1)) 3), 3, none⟩,
      ⟨some 9, (.assign (.tmp 25)), 3, none⟩]))))))
    (.seq (.reg [] [⟨some 41, (.move (.tmp 7)), 27, none⟩,
      ⟨some 4, (.assign (.tmp 41)), 27, none⟩,
      ⟨some 5, (.assign (.const (.int .i64 0))), 28, none⟩])
    .ret)))))))
theorem C15 {args : List AV} {r : AV} (hn : args.length ≤ 42) (h : vc Tryz.prog T [] A15 (Fin T [(.tmp 4), (.tmp 5)] r) ⟨envOf 0 args, []⟩) : CallP Tryz.prog 15 args r :=
  callP_of tok mixed Tryz.func15 (by kernel_rfl) (by kernel_rfl) (by kernel_rfl : Tryz.f15.ntmps = 42) (by kernel_rfl : Tryz.f15.body.bind (strip 42 (fun _ => [])) = some A15) hn h
def A60 : ACode :=
  (.seq (.reg [] [⟨some 4, (.assign (.const (.bool false))), 4, none⟩])
    (.seq (.seq (.reg [] [⟨some 6, (.move (.tmp 0)), 23, none⟩,
      ⟨some 7, (.call ⟨(.builtin .len), #[(.tmp 6)], #[23]⟩), 3, none⟩,
      ⟨some 8, (.move (.tmp 1)), 3, none⟩,
      ⟨some 9, (.binOp .neq 3 (.tmp 7) (.tmp 8) 3), 4, none⟩])
    (.cond (.tmp 9)
    (.seq (.reg [] [⟨some 4, (.assign (.const (.bool false))), 4, none⟩])
    .ret)
    .skip))
    (.seq (.seq (.reg [] [⟨some 5, (.assign (.const (.int .i64 0))), 3, none⟩])
    (.block 0 (.loop (.seq (.seq (.reg [] [⟨some 10, (.move (.tmp 5)), 3, none⟩,
      ⟨some 11, (.move (.tmp 1)), 3, none⟩,
      ⟨some 12, (.binOp .lss 3 (.tmp 10) (.tmp 11) 3), 4, none⟩])
    (.cond (.tmp 12)
    .skip
    (.exit 0)))
    (.seq (.block 1 (.seq (.reg [] [⟨some 15, (.move (.tmp 0)), 23, none⟩,
      ⟨some 16, (.move (.tmp 5)), 3, none⟩,
      ⟨some 17, (.call ⟨(.value (.func 80)), #[(.tmp 15), (.tmp 16)], #[23, 3]⟩), 4, none⟩,
      ⟨some 18, (.unOp .not 4 (.tmp 17)), 4, none⟩])
    (.cond (.tmp 18)
    (.seq (.reg [] [⟨some 4, (.assign (.const (.bool false))), 4, none⟩])
    .ret)
    .skip)))
    (.reg [] [⟨some 13, (.move (.tmp 5)), 3, none⟩,
      ⟨some 14, (.binOp .add 3 (.tmp 13) (.const (.int .i64 1)) 3), 3, none⟩,
      ⟨some 5, (.assign (.tmp 14)), 3, none⟩]))))))
    (.seq (.reg [] [⟨some 4, (.assign (.const (.bool true))), 4, none⟩])
    .ret))))
theorem C60 {args : List AV} {r : AV} (hn : args.length ≤ 19) (h : vc Tryz.prog T [] A60 (Fin T [(.tmp 4)] r) ⟨envOf 0 args, []⟩) : CallP Tryz.prog 60 args r :=
  callP_of tok mixed Tryz.func60 (by kernel_rfl) (by kernel_rfl) (by kernel_rfl : Tryz.f60.ntmps = 19) (by kernel_rfl : Tryz.f60.body.bind (strip 19 (fun _ => [])) = some A60) hn h
def A72 : ACode :=
  (.seq (.reg [] [⟨some 6, (.assign (.const (.int .i64 0))), 28, none⟩])
    (.seq (.seq (.reg [] [⟨some 8, (.move (.tmp 0)), 3, none⟩,
      ⟨some 9, (.move (.tmp 1)), 22, none⟩,
      ⟨some 10, (.call ⟨(.value (.func 59)), #[(.tmp 8), (.tmp 9)], #[3, 22]⟩), 28, none⟩,
      ⟨some 7, (.assign (.tmp 10)), 28, none⟩])
    (.seq (.reg [] [⟨some 11, (.move (.tmp 7)), 28, none⟩,
      ⟨some 12, (.binOp .neq 28 (.tmp 11) (.const (.int .i64 0)) 28), 4, none⟩])
    (.cond (.tmp 12)
    (.seq (.reg [] [⟨some 13, (.move (.tmp 7)), 28, none⟩,
      ⟨some 6, (.assign (.tmp 13)), 28, none⟩])
    .ret)
    .skip)))
    (.seq (.seq (.reg [] [⟨some 14, (.move (.tmp 2)), 23, none⟩,
      ⟨some 15, (.move (.tmp 0)), 3, none⟩,
      ⟨some 16, (.call ⟨(.value (.func 60)), #[(.tmp 14), (.tmp 15)], #[23, 3]⟩), 4, none⟩,
      ⟨some 17, (.unOp .not 4 (.tmp 16)), 4, none⟩])
    (.cond (.tmp 17)
    (.seq (.reg [] [⟨some 6, (.assign (.const (.int .i64 1))), 28, none⟩])
    .ret)
    .skip))
    (.seq (.reg [] [⟨some 6, (.assign (.const (.int .i64 0))), 28, none⟩])
    .ret))))
theorem C72 {args : List AV} {r : AV} (hn : args.length ≤ 18) (h : vc Tryz.prog T [] A72 (Fin T [(.tmp 6)] r) ⟨envOf 0 args, []⟩) : CallP Tryz.prog 72 args r :=
  callP_of tok mixed Tryz.func72 (by kernel_rfl) (by kernel_rfl) (by kernel_rfl : Tryz.f72.ntmps = 18) (by kernel_rfl : Tryz.f72.body.bind (strip 18 (fun _ => [])) = some A72) hn h
def A97 : ACode :=
  (.seq (.reg [] [⟨some 4, (.assign (.const (.int .i64 0))), 3, none⟩,
      ⟨some 5, (.assign (.const (.int .i64 0))), 3, none⟩])
    (.seq (.reg [] [⟨some 6, (.assign (.const (.int .i64 (-1)))), 3, none⟩,
      ⟨some 7, (.assign (.const (.int .i64 (-1)))), 3, none⟩])
    (.seq (.seq (.reg [] [⟨some 8, (.assign (.const (.int .i64 0))), 3, none⟩])
    (.block 0 (.loop (.seq (.seq (.reg [] [⟨some 9, (.move (.tmp 8)), 3, none⟩,
      ⟨some 10, (.move (.tmp 0)), 23, none⟩,
      ⟨some 11, (.call ⟨(.builtin .len), #[(.tmp 10)], #[23]⟩), 3, none⟩,
      ⟨some 12, (.binOp .lss 3 (.tmp 9) (.tmp 11) 3), 4, none⟩])
    (.cond (.tmp 12)
    .skip
    (.exit 0)))
    (.seq (.block 1 (.seq (.reg [] [⟨some 15, (.move (.tmp 1)), 23, none⟩,
      ⟨some 16, (.move (.tmp 0)), 23, none⟩,
      ⟨some 17, (.move (.tmp 8)), 3, none⟩,
      ⟨some 18, (.indexAddr 23 (.tmp 16) (.tmp 17)), 0, none⟩,
      ⟨some 19, (.load 3 (.tmp 18)), 3, none⟩,
      ⟨some 20, (.call ⟨(.value (.func 80)), #[(.tmp 15), (.tmp 19)], #[23, 3]⟩), 4, none⟩])
    (.cond (.tmp 20)
    (.seq (.reg [] [⟨some 21, (.move (.tmp 8)), 3, none⟩,
      ⟨some 7, (.assign (.tmp 21)), 3, none⟩])
    (.seq (.reg [] [⟨some 22, (.move (.tmp 6)), 3, none⟩,
      ⟨some 23, (.binOp .lss 3 (.tmp 22) (.const (.int .i64 0)) 3), 4, none⟩])
    (.cond (.tmp 23)
    (.reg [] [⟨some 24, (.move (.tmp 8)), 3, none⟩,
      ⟨some 6, (.assign (.tmp 24)), 3, none⟩])
    .skip)))
    .skip)))
    (.reg [] [⟨some 13, (.move (.tmp 8)), 3, none⟩,
      ⟨some 14, (.binOp .add 3 (.tmp 13) (.const (.int .i64 1)) 3), 3, none⟩,
      ⟨some 8, (.assign (.tmp 14)), 3, none⟩]))))))
    (.seq (.reg [] [⟨some 25, (.move (.tmp 6)), 3, none⟩,
      ⟨some 26, (.move (.tmp 7)), 3, none⟩,
      ⟨some 4, (.assign (.tmp 25)), 3, none⟩,
      ⟨some 5, (.assign (.tmp 26)), 3, none⟩])
    .ret))))
theorem C97 {args : List AV} {r : AV} (hn : args.length ≤ 27) (h : vc Tryz.prog T [] A97 (Fin T [(.tmp 4), (.tmp 5)] r) ⟨envOf 0 args, []⟩) : CallP Tryz.prog 97 args r :=
  callP_of tok mixed Tryz.func97 (by kernel_rfl) (by kernel_rfl) (by kernel_rfl : Tryz.f97.ntmps = 27) (by kernel_rfl : Tryz.f97.body.bind (strip 27 (fun _ => [])) = some A97) hn h
def A65 : ACode :=
  (.seq (.reg [] [⟨some 4, (.assign (.const (.bool false))), 4, none⟩])
    (.seq (.seq (.reg [] [⟨some 5, (.assign (.const (.int .i64 0))), 3, none⟩])
    (.block 0 (.loop (.seq (.seq (.reg [] [⟨some 8, (.move (.tmp 5)), 3, none⟩,
      ⟨some 9, (.move (.tmp 0)), 22, none⟩,
      ⟨some 10, (.call ⟨(.builtin .len), #[(.tmp 9)], #[22]⟩), 3, none⟩,
      ⟨some 11, (.binOp .lss 3 (.tmp 8) (.tmp 10) 3), 4, none⟩])
    (.cond (.tmp 11)
    .skip
    (.exit 0)))
    (.seq (.block 1 (.seq (.reg [] [⟨some 15, (.move (.tmp 1)), 23, none⟩,
      ⟨some 16, (.move (.tmp 0)), 22, none⟩,
      ⟨some 17, (.move (.tmp 5)), 3, none⟩,
      ⟨some 18, (.indexAddr 22 (.tmp 16) (.tmp 17)), 0, none⟩,
      ⟨some 19, (.load 23 (.tmp 18)), 23, none⟩,
      ⟨some 20, (.call ⟨(.value (.func 97)), #[(.tmp 15), (.tmp 19)], #[23, 23]⟩), 105, none⟩,
      ⟨some 14, (.move (.tmp 20)), 105, none⟩,
      ⟨some 21, (.extract (.tmp 14) 0), 3, none⟩,
      ⟨some 22, (.extract (.tmp 14) 1), 3, none⟩,
      ⟨some 6, (.assign (.tmp 21)), 3, none⟩,
      ⟨some 7, (.assign (.tmp 22)), 3, none⟩])
    (.seq (.reg [] [⟨some 23, (.move (.tmp 7)), 3, none⟩,
      ⟨some 24, (.move (.tmp 6)), 3, none⟩,
      ⟨some 25, (.binOp .sub 3 (.tmp 23) (.tmp 24) 3), 3, none⟩,
      ⟨some 26, (.binOp .add 3 (.tmp 25) (.const (.int .i64 1)) 3), 3, none⟩,
      ⟨some 27, (.move (.tmp 0)), 22, none⟩,
      ⟨some 28, (.move (.tmp 5)), 3, none⟩,
      ⟨some 29, (.indexAddr 22 (.tmp 27) (.tmp 28)), 0, none⟩,
      ⟨some 30, (.load 23 (.tmp 29)), 23, none⟩,
      ⟨some 31, (.call ⟨(.builtin .len), #[(.tmp 30)], #[23]⟩), 3, none⟩,
      ⟨some 32, (.binOp .neq 3 (.tmp 26) (.tmp 31) 3), 4, none⟩])
    (.cond (.tmp 32)
    (.seq (.reg [] [⟨some 4, (.assign (.const (.bool false))), 4, none⟩])
    .ret)
    .skip))))
    (.reg [] [⟨some 12, (.move (.tmp 5)), 3, none⟩,
      ⟨some 13, (.binOp .add 3 (.tmp 12) (.const (.int .i64 1)) 3), 3, none⟩,
      ⟨some 5, (.assign (.tmp 13)), 3, none⟩]))))))
    (.seq (.reg [] [⟨some 4, (.assign (.const (.bool true))), 4, none⟩])
    .ret)))
theorem C65 {args : List AV} {r : AV} (hn : args.length ≤ 33) (h : vc Tryz.prog T [] A65 (Fin T [(.tmp 4)] r) ⟨envOf 0 args, []⟩) : CallP Tryz.prog 65 args r :=
  callP_of tok mixed Tryz.func65 (by kernel_rfl) (by kernel_rfl) (by kernel_rfl : Tryz.f65.ntmps = 33) (by kernel_rfl : Tryz.f65.body.bind (strip 33 (fun _ => [])) = some A65) hn h
def A64 : ACode :=
  (.seq (.reg [] [⟨some 2, (.assign (.const (.slice none 0 0))), 22, none⟩])
    (.seq (.reg [] [⟨some 8, (.buildSlice 22 1 #[(0, (.const (.slice none 0 0)))]), 22, none⟩,
      ⟨some 3, (.assign (.tmp 8)), 22, none⟩])
    (.seq (.seq (.reg [] [⟨some 4, (.assign (.const (.int .i64 0))), 3, none⟩])
    (.block 0 (.loop (.seq (.seq (.reg [] [⟨some 9, (.move (.tmp 4)), 3, none⟩,
      ⟨some 10, (.move (.tmp 0)), 3, none⟩,
      ⟨some 11, (.binOp .lss 3 (.tmp 9) (.tmp 10) 3), 4, none⟩])
    (.cond (.tmp 11)
    .skip
    (.exit 0)))
    (.seq (.block 1 (.seq (.reg [] [⟨some 5, (.assign (.const (.slice none 0 0))), 22, none⟩])
    (.seq (.seq (.reg [] [⟨some 6, (.assign (.const (.int .i64 0))), 3, none⟩])
    (.block 2 (.loop (.seq (.seq (.reg [] [⟨some 14, (.move (.tmp 6)), 3, none⟩,
      ⟨some 15, (.move (.tmp 3)), 22, none⟩,
      ⟨some 16, (.call ⟨(.builtin .len), #[(.tmp 15)], #[22]⟩), 3, none⟩,
      ⟨some 17, (.binOp .lss 3 (.tmp 14) (.tmp 16) 3), 4, none⟩])
    (.cond (.tmp 17)
    .skip
    (.exit 2)))
    (.seq (.block 3 (.seq (.reg [] [⟨some 7, (.assign (.const (.int .i64 0))), 3, none⟩])
    (.block 4 (.loop (.seq (.seq (.reg [] [⟨some 20, (.move (.tmp 7)), 3, none⟩,
      ⟨some 21, (.move (.tmp 0)), 3, none⟩,
      ⟨some 22, (.binOp .lss 3 (.tmp 20) (.tmp 21) 3), 4, none⟩])
    (.cond (.tmp 22)
    .skip
    (.exit 4)))
    (.seq (.block 5 (.seq (.reg [] [⟨some 25, (.move (.tmp 3)), 22, none⟩,
      ⟨some 26, (.move (.tmp 6)), 3, none⟩,
      ⟨some 27, (.indexAddr 22 (.tmp 25) (.tmp 26)), 0, none⟩,
      ⟨some 28, (.load 23 (.tmp 27)), 23, none⟩,
      ⟨some 29, (.move (.tmp 7)), 3, none⟩,
      ⟨some 30, (.call ⟨(.value (.func 80)), #[(.tmp 28), (.tmp 29)], #[23, 3]⟩), 4, none⟩,
      ⟨some 31, (.unOp .not 4 (.tmp 30)), 4, none⟩])
    (.cond (.tmp 31)
    (.reg [] [⟨some 32, (.move (.tmp 5)), 22, none⟩,
      ⟨some 33, (.buildSlice 23 0 #[]), 23, none⟩,
      ⟨some 34, (.move (.tmp 3)), 22, none⟩,
      ⟨some 35, (.move (.tmp 6)), 3, none⟩,
      ⟨some 36, (.indexAddr 22 (.tmp 34) (.tmp 35)), 0, none⟩,
      ⟨some 37, (.load 23 (.tmp 36)), 23, none⟩,
      ⟨some 38, (.call ⟨(.builtin .append), #[(.tmp 33), (.tmp 37)], #[23, 23]⟩), 23, none⟩,
      ⟨some 39, (.move (.tmp 7)), 3, none⟩,
      ⟨some 40, (.buildSlice 23 1 #[(0, (.tmp 39))]), 23, none⟩,
      ⟨some 41, (.call ⟨(.builtin .append), #[(.tmp 38), (.tmp 40)], #[23, 23]⟩), 23, none⟩,
      ⟨some 42, (.buildSlice 22 1 #[(0, (.tmp 41))]), 22, none⟩,
      ⟨some 43, (.call ⟨(.builtin .append), #[(.tmp 32), (.tmp 42)], #[22, 22]⟩), 22, none⟩,
      ⟨some 5, (.assign (.tmp 43)), 22, none⟩])
    .skip)))
    (.reg [] [⟨some 23, (.move (.tmp 7)), 3, none⟩,
      ⟨some 24, (.binOp .add 3 (.tmp 23) (.const (.int .i64 1)) 3), 3, none⟩,
      ⟨some 7, (.assign (.tmp 24)), 3, none⟩])))))))
    (.reg [] [⟨some 18, (.move (.tmp 6)), 3, none⟩,
      ⟨some 19, (.binOp .add 3 (.tmp 18) (.const (.int .i64 1)) 3), 3, none⟩,
      ⟨some 6, (.assign (.tmp 19)), 3, none⟩]))))))
    (.reg [] [⟨some 44, (.move (.tmp 5)), 22, none⟩,
      ⟨some 3, (.assign (.tmp 44)), 22, none⟩]))))
    (.reg [] [⟨some 12, (.move (.tmp 4)), 3, none⟩,
      ⟨some 13, (.binOp .add 3 (.tmp 12) (.const (.int .i64 1)) 3), 3, none⟩,
      ⟨some 4, (.assign (.tmp 13)), 3, none⟩]))))))
    (.seq (.reg [] [⟨some 45, (.move (.tmp 3)), 22, none⟩,
      ⟨some 2, (.assign (.tmp 45)), 22, none⟩])
    .ret))))
theorem C64 {args : List AV} {r : AV} (hn : args.length ≤ 46) (h : vc Tryz.prog T [] A64 (Fin T [(.tmp 2)] r) ⟨envOf 0 args, []⟩) : CallP Tryz.prog 64 args r :=
  callP_of tok mixed Tryz.func64 (by kernel_rfl) (by kernel_rfl) (by kernel_rfl : Tryz.f64.ntmps = 46) (by kernel_rfl : Tryz.f64.body.bind (strip 46 (fun _ => [])) = some A64) hn h
def A66 : ACode :=
  (.seq (.reg [] [⟨some 4, (.assign (.const (.int .i64 0))), 3, none⟩])
    (.seq (.reg [] [⟨some 5, (.assign (.const (.int .i64 0))), 3, none⟩])
    (.seq (.seq (.reg [] [⟨some 6, (.assign (.const (.int .i64 0))), 3, none⟩])
    (.block 0 (.loop (.seq (.seq (.reg [] [⟨some 11, (.move (.tmp 6)), 3, none⟩,
      ⟨some 12, (.move (.tmp 1)), 23, none⟩,
      ⟨some 13, (.call ⟨(.builtin .len), #[(.tmp 12)], #[23]⟩), 3, none⟩,
      ⟨some 14, (.binOp .lss 3 (.tmp 11) (.tmp 13) 3), 4, none⟩])
    (.cond (.tmp 14)
    .skip
    (.exit 0)))
    (.seq (.block 1 (.seq (.reg [] [⟨some 17, (.move (.tmp 6)), 3, none⟩,
      ⟨some 18, (.move (.tmp 1)), 23, none⟩,
      ⟨some 19, (.call ⟨(.builtin .len), #[(.tmp 18)], #[23]⟩), 3, none⟩,
      ⟨some 20, (.binOp .sub 3 (.tmp 19) (.const (.int .i64 1)) 3), 3, none⟩,
      ⟨some 21, (.binOp .eql 3 (.tmp 17) (.tmp 20) 3), 4, none⟩,
      ⟨some 7, (.assign (.tmp 21)), 4, none⟩])
    (.seq (.seq (.reg [] [⟨some 8, (.assign (.const (.int .i64 0))), 3, none⟩])
    (.block 2 (.loop (.seq (.seq (.reg [] [⟨some 22, (.move (.tmp 8)), 3, none⟩,
      ⟨some 23, (.move (.tmp 0)), 22, none⟩,
      ⟨some 24, (.call ⟨(.builtin .len), #[(.tmp 23)], #[22]⟩), 3, none⟩,
      ⟨some 25, (.binOp .lss 3 (.tmp 22) (.tmp 24) 3), 4, none⟩])
    (.cond (.tmp 25)
    .skip
    (.exit 2)))
    (.seq (.block 3 (.seq (.reg [] [⟨some 29, (.move (.tmp 1)), 23, none⟩,
      ⟨some 30, (.move (.tmp 0)), 22, none⟩,
      ⟨some 31, (.move (.tmp 8)), 3, none⟩,
      ⟨some 32, (.indexAddr 22 (.tmp 30) (.tmp 31)), 0, none⟩,
      ⟨some 33, (.load 23 (.tmp 32)), 23, none⟩,
      ⟨some 34, (.call ⟨(.value (.func 97)), #[(.tmp 29), (.tmp 33)], #[23, 23]⟩), 105, none⟩,
      ⟨some 28, (.move (.tmp 34)), 105, none⟩,
      ⟨some 35, (.extract (.tmp 28) 0), 3, none⟩,
      ⟨some 36, (.extract (.tmp 28) 1), 3, none⟩,
      ⟨some 9, (.assign (.tmp 35)), 3, none⟩,
      ⟨some 10, (.assign (.tmp 36)), 3, none⟩])
    (.reg [] [⟨some 37, (.move (.tmp 7)), 4, none⟩,
      ⟨some 38, (.move (.tmp 37)), 4, none⟩,
      ⟨some 39, (.move (.tmp 10)), 3, some (38, false)⟩,
      ⟨some 40, (.move (.tmp 6)), 3, some (38, false)⟩,
      ⟨some 41, (.binOp .eql 3 (.tmp 39) (.tmp 40) 3), 4, some (38, false)⟩,
      ⟨some 42, (.pick (.tmp 38) (.const (.bool true)) (.tmp 41)), 4, none⟩,
      ⟨some 7, (.assign (.tmp 42)), 4, none⟩])))
    (.reg [] [⟨some 26, (.move (.tmp 8)), 3, none⟩,
      ⟨some 27, (.binOp .add 3 (.tmp 26) (.const (.int .i64 1)) 3), 3, none⟩,
      ⟨some 8, (.assign (.tmp 27)), 3, none⟩]))))))
    (.seq (.reg [] [⟨some 43, (.move (.tmp 7)), 4, none⟩])
    (.cond (.tmp 43)
    (.reg [] [⟨some 44, (.move (.tmp 5)), 3, none⟩,
      ⟨some 45, (.binOp .add 3 (.tmp 44) (.const (.int .i64 1)) 3), 3, none⟩,
      ⟨some 5, (.assign (.tmp 45)), 3, none⟩])
    .skip)))))
    (.reg [] [⟨some 15, (.move (.tmp 6)), 3, none⟩,
      ⟨some 16, (.binOp .add 3 (.tmp 15) (.const (.int .i64 1)) 3), 3, none⟩,
      ⟨some 6, (.assign (.tmp 16)), 3, none⟩]))))))
    (.seq (.reg [] [⟨some 46, (.move (.tmp 5)), 3, none⟩,
      ⟨some 4, (.assign (.tmp 46)), 3, none⟩])
    .ret))))
theorem C66 {args : List AV} {r : AV} (hn : args.length ≤ 47) (h : vc Tryz.prog T [] A66 (Fin T [(.tmp 4)] r) ⟨envOf 0 args, []⟩) : CallP Tryz.prog 66 args r :=
  callP_of tok mixed Tryz.func66 (by kernel_rfl) (by kernel_rfl) (by kernel_rfl : Tryz.f66.ntmps = 47) (by kernel_rfl : Tryz.f66.body.bind (strip 47 (fun _ => [])) = some A66) hn h
def A29 : ACode :=
  (.seq (.reg [] [⟨some 6, (.assign (.const (.int .i64 0))), 3, none⟩,
      ⟨some 7, (.assign (.const (.int .i64 0))), 28, none⟩])
    (.seq (.seq (.reg [] [⟨some 9, (.move (.tmp 0)), 3, none⟩,
      ⟨some 10, (.move (.tmp 1)), 22, none⟩,
      ⟨some 11, (.move (.tmp 2)), 23, none⟩,
      ⟨some 12, (.call ⟨(.value (.func 72)), #[(.tmp 9), (.tmp 10), (.tmp 11)], #[3, 22, 23]⟩), 28, none⟩,
      ⟨some 8, (.assign (.tmp 12)), 28, none⟩])
    (.seq (.reg [] [⟨some 13, (.move (.tmp 8)), 28, none⟩,
      ⟨some 14, (.binOp .neq 28 (.tmp 13) (.const (.int .i64 0)) 28), 4, none⟩])
    (.cond (.tmp 14)
    (.seq (.reg [] [⟨some 15, (.move (.tmp 8)), 28, none⟩,
      ⟨some 6, (.assign (.const (.int .i64 0))), 3, none⟩,
      ⟨some 7, (.assign (.tmp 15)), 28, none⟩])
    .ret)
    .skip)))
    (.seq (.seq (.reg [] [⟨some 16, (.move (.tmp 1)), 22, none⟩,
      ⟨some 17, (.move (.tmp 2)), 23, none⟩,
      ⟨some 18, (.call ⟨(.value (.func 65)), #[(.tmp 16), (.tmp 17)], #[22, 23]⟩), 4, none⟩,
      ⟨some 19, (.unOp .not 4 (.tmp 18)), 4, none⟩])
    (.cond (.tmp 19)
    (.seq (.reg [] [⟨some 6, (.assign (.const (.int .i64 0))), 3, none⟩,
      ⟨some 7, (.assign (.const (.int .i64 6))), 28, none⟩])
    .ret)
    .skip))
    (.seq (.reg [] [⟨some 20, (.move (.tmp 1)), 22, none⟩,
      ⟨some 21, (.move (.tmp 2)), 23, none⟩,
      ⟨some 22, (.call ⟨(.value (.func 66)), #[(.tmp 20), (.tmp 21)], #[22, 23]⟩), 3, none⟩,
      ⟨some 6, (.assign (.tmp 22)), 3, none⟩,
      ⟨some 7, (.assign (.const (.int .i64 0))), 28, none⟩])
    .ret))))
theorem C29 {args : List AV} {r : AV} (hn : args.length ≤ 23) (h : vc Tryz.prog T [] A29 (Fin T [(.tmp 6), (.tmp 7)] r) ⟨envOf 0 args, []⟩) : CallP Tryz.prog 29 args r :=
  callP_of tok mixed Tryz.func29 (by kernel_rfl) (by kernel_rfl) (by kernel_rfl : Tryz.f29.ntmps = 23) (by kernel_rfl : Tryz.f29.body.bind (strip 23 (fun _ => [])) = some A29) hn h
def A20 : ACode :=
  (.seq (.reg [] [⟨some 4, (.assign (.const (.int .i64 0))), 3, none⟩,
      ⟨some 5, (.assign (.const (.bool false))), 4, none⟩,
      ⟨some 6, (.assign (.const (.int .i64 0))), 28, none⟩])
    (.seq (.seq (.reg [] [⟨some 12, (.move (.tmp 0)), 3, none⟩,
      ⟨some 13, (.move (.tmp 1)), 22, none⟩,
      ⟨some 14, (.call ⟨(.value (.func 59)), #[(.tmp 12), (.tmp 13)], #[3, 22]⟩), 28, none⟩,
      ⟨some 7, (.assign (.tmp 14)), 28, none⟩])
    (.seq (.reg [] [⟨some 15, (.move (.tmp 7)), 28, none⟩,
      ⟨some 16, (.binOp .neq 28 (.tmp 15) (.const (.int .i64 0)) 28), 4, none⟩])
    (.cond (.tmp 16)
    (.seq (.reg [] [⟨some 17, (.move (.tmp 7)), 28, none⟩,
      ⟨some 4, (.assign (.const (.int .i64 0))), 3, none⟩,
      ⟨some 5, (.assign (.const (.bool false))), 4, none⟩,
      ⟨some 6, (.assign (.tmp 17)), 28, none⟩])
    .ret)
    .skip)))
    (.seq (.reg [] [⟨some 8, (.assign (.const (.int .i64 0))), 3, none⟩])
    (.seq (.reg [] [⟨some 18, (.move (.tmp 0)), 3, none⟩,
      ⟨some 19, (.call ⟨(.value (.func 64)), #[(.tmp 18)], #[3]⟩), 22, none⟩,
      ⟨some 9, (.assign (.tmp 19)), 22, none⟩])
    (.seq (.seq (.reg [] [⟨some 10, (.assign (.const (.int .i64 0))), 3, none⟩])
    (.block 0 (.loop (.seq (.seq (.reg [] [⟨some 20, (.move (.tmp 10)), 3, none⟩,
      ⟨some 21, (.move (.tmp 9)), 22, none⟩,
      ⟨some 22, (.call ⟨(.builtin .len), #[(.tmp 21)], #[22]⟩), 3, none⟩,
      ⟨some 23, (.binOp .lss 3 (.tmp 20) (.tmp 22) 3), 4, none⟩])
    (.cond (.tmp 23)
    .skip
    (.exit 0)))
    (.seq (.block 1 (.seq (.seq (.reg [] [⟨some 26, (.move (.tmp 1)), 22, none⟩,
      ⟨some 27, (.move (.tmp 9)), 22, none⟩,
      ⟨some 28, (.move (.tmp 10)), 3, none⟩,
      ⟨some 29, (.indexAddr 22 (.tmp 27) (.tmp 28)), 0, none⟩,
      ⟨some 30, (.load 23 (.tmp 29)), 23, none⟩,
      ⟨some 31, (.call ⟨(.value (.func 65)), #[(.tmp 26), (.tmp 30)], #[22, 23]⟩), 4, none⟩,
      ⟨some 32, (.unOp .not 4 (.tmp 31)), 4, none⟩])
    (.cond (.tmp 32)
    (.exit 1)
    .skip))
    (.seq (.reg [] [⟨some 33, (.move (.tmp 1)), 22, none⟩,
      ⟨some 34, (.move (.tmp 9)), 22, none⟩,
      ⟨some 35, (.move (.tmp 10)), 3, none⟩,
      ⟨some 36, (.indexAddr 22 (.tmp 34) (.tmp 35)), 0, none⟩,
      ⟨some 37, (.load 23 (.tmp 36)), 23, none⟩,
      ⟨some 38, (.call ⟨(.value (.func 66)), #[(.tmp 33), (.tmp 37)], #[22, 23]⟩), 3, none⟩,
      ⟨some 11, (.assign (.tmp 38)), 3, none⟩])
    (.seq (.reg [] [⟨some 39, (.move (.tmp 8)), 3, none⟩,
      ⟨some 40, (.binOp .eql 3 (.tmp 39) (.const (.int .i64 0)) 3), 4, none⟩,
      ⟨some 41, (.move (.tmp 40)), 4, none⟩,
      ⟨some 42, (.move (.tmp 11)), 3, some (41, false)⟩,
      ⟨some 43, (.move (.tmp 8)), 3, some (41, false)⟩,
      ⟨some 44, (.binOp .lss 3 (.tmp 42) (.tmp 43) 3), 4, some (41, false)⟩,
      ⟨some 45, (.pick (.tmp 41) (.const (.bool true)) (.tmp 44)), 4, none⟩])
    (.cond (.tmp 45)
    (.reg [] [⟨some 46, (.move (.tmp 11)), 3, none⟩,
      ⟨some 8, (.assign (.tmp 46)), 3, none⟩])
    .skip)))))
    (.reg [] [⟨some 24, (.move (.tmp 10)), 3, none⟩,
      ⟨some 25, (.binOp .add 3 (.tmp 24) (.const (.int .i64 1)) 3), 3, none⟩,
      ⟨some 10, (.assign (.tmp 25)), 3, none⟩]))))))
    (.seq (.reg [] [⟨some 47, (.move (.tmp 8)), 3, none⟩,
      ⟨some 48, (.move (.tmp 8)), 3, none⟩,
      ⟨some 49, (.binOp .gtr 3 (.tmp 48) (.const (.int .i64 0)) 3), 4, none⟩,
      ⟨some 4, (.assign (.tmp 47)), 3, none⟩,
      ⟨some 5, (.assign (.tmp 49)), 4, none⟩,
      ⟨some 6, (.assign (.const (.int .i64 0))), 28, none⟩])
    .ret))))))
theorem C20 {args : List AV} {r : AV} (hn : args.length ≤ 50) (h : vc Tryz.prog T [] A20 (Fin T [(.tmp 4), (.tmp 5), (.tmp 6)] r) ⟨envOf 0 args, []⟩) : CallP Tryz.prog 20 args r :=
  callP_of tok mixed Tryz.func20 (by kernel_rfl) (by kernel_rfl) (by kernel_rfl : Tryz.f20.ntmps = 50) (by kernel_rfl : Tryz.f20.body.bind (strip 50 (fun _ => [])) = some A20) hn h
def A18 : ACode :=
  (.seq (.reg [] [⟨some 6, (.assign (.const (.int .i64 0))), 28, none⟩])
    (.seq (.seq (.reg [] [⟨some 12, (.move (.tmp 0)), 3, none⟩,
      ⟨some 13, (.move (.tmp 1)), 22, none⟩,
      ⟨some 14, (.call ⟨(.value (.func 59)), #[(.tmp 12), (.tmp 13)], #[3, 22]⟩), 28, none⟩,
      ⟨some 7, (.assign (.tmp 14)), 28, none⟩])
    (.seq (.reg [] [⟨some 15, (.move (.tmp 7)), 28, none⟩,
      ⟨some 16, (.binOp .neq 28 (.tmp 15) (.const (.int .i64 0)) 28), 4, none⟩])
    (.cond (.tmp 16)
    (.seq (.reg [] [⟨some 17, (.move (.tmp 7)), 28, none⟩,
      ⟨some 6, (.assign (.tmp 17)), 28, none⟩])
    .ret)
    .skip)))
    (.seq (.seq (.reg [] [⟨some 18, (.move (.tmp 2)), 22, none⟩,
      ⟨some 19, (.call ⟨(.value (.func 50)), #[(.tmp 18)], #[22]⟩), 28, none⟩,
      ⟨some 8, (.assign (.tmp 19)), 28, none⟩])
    (.seq (.reg [] [⟨some 20, (.move (.tmp 8)), 28, none⟩,
      ⟨some 21, (.binOp .neq 28 (.tmp 20) (.const (.int .i64 0)) 28), 4, none⟩])
    (.cond (.tmp 21)
    (.seq (.reg [] [⟨some 22, (.move (.tmp 8)), 28, none⟩,
      ⟨some 6, (.assign (.tmp 22)), 28, none⟩])
    .ret)
    .skip)))
    (.seq (.seq (.reg [] [⟨some 23, (.move (.tmp 2)), 22, none⟩,
      ⟨some 24, (.call ⟨(.value (.func 61)), #[(.tmp 23)], #[22]⟩), 23, none⟩,
      ⟨some 25, (.move (.tmp 0)), 3, none⟩,
      ⟨some 26, (.call ⟨(.value (.func 60)), #[(.tmp 24), (.tmp 25)], #[23, 3]⟩), 4, none⟩,
      ⟨some 27, (.unOp .not 4 (.tmp 26)), 4, none⟩])
    (.cond (.tmp 27)
    (.seq (.reg [] [⟨some 6, (.assign (.const (.int .i64 9))), 28, none⟩])
    .ret)
    .skip))
    (.seq (.seq (.reg [] [⟨some 9, (.assign (.const (.int .i64 0))), 3, none⟩])
    (.block 0 (.loop (.seq (.seq (.reg [] [⟨some 28, (.move (.tmp 9)), 3, none⟩,
      ⟨some 29, (.move (.tmp 1)), 22, none⟩,
      ⟨some 30, (.call ⟨(.builtin .len), #[(.tmp 29)], #[22]⟩), 3, none⟩,
      ⟨some 31, (.binOp .lss 3 (.tmp 28) (.tmp 30) 3), 4, none⟩])
    (.cond (.tmp 31)
    .skip
    (.exit 0)))
    (.seq (.block 1 (.seq (.reg [] [⟨some 35, (.move (.tmp 2)), 22, none⟩,
      ⟨some 36, (.move (.tmp 1)), 22, none⟩,
      ⟨some 37, (.move (.tmp 9)), 3, none⟩,
      ⟨some 38, (.indexAddr 22 (.tmp 36) (.tmp 37)), 0, none⟩,
      ⟨some 39, (.load 23 (.tmp 38)), 23, none⟩,
      ⟨some 40, (.call ⟨(.value (.func 15)), #[(.tmp 35), (.tmp 39)], #[22, 23]⟩), 29, none⟩,
      ⟨some 34, (.move (.tmp 40)), 29, none⟩,
      ⟨some 41, (.extract (.tmp 34) 0), 27, none⟩,
      ⟨some 42, (.extract (.tmp 34) 1), 28, none⟩,
      ⟨some 10, (.assign (.tmp 41)), 27, none⟩,
      ⟨some 11, (.assign (.tmp 42)), 28, none⟩])
    (.seq (.reg [] [⟨some 43, (.move (.tmp 10)), 27, none⟩,
      ⟨some 44, (.call ⟨(.builtin .len), #[(.tmp 43)], #[27]⟩), 3, none⟩,
      ⟨some 45, (.binOp .eql 3 (.tmp 44) (.const (.int .i64 0)) 3), 4, none⟩])
    (.cond (.tmp 45)
    (.seq (.reg [] [⟨some 6, (.assign (.const (.int .i64 7))), 28, none⟩])
    .ret)
    .skip))))
    (.reg [] [⟨some 32, (.move (.tmp 9)), 3, none⟩,
      ⟨some 33, (.binOp .add 3 (.tmp 32) (.const (.int .i64 1)) 3), 3, none⟩,
      ⟨some 9, (.assign (.tmp 33)), 3, none⟩]))))))
    (.seq (.reg [] [⟨some 6, (.assign (.const (.int .i64 0))), 28, none⟩])
    .ret))))))
theorem C18 {args : List AV} {r : AV} (hn : args.length ≤ 46) (h : vc Tryz.prog T [] A18 (Fin T [(.tmp 6)] r) ⟨envOf 0 args, []⟩) : CallP Tryz.prog 18 args r :=
  callP_of tok mixed Tryz.func18 (by kernel_rfl) (by kernel_rfl) (by kernel_rfl : Tryz.f18.ntmps = 46) (by kernel_rfl : Tryz.f18.body.bind (strip 46 (fun _ => [])) = some A18) hn h
def A16 : ACode :=
  (.seq (.reg [] [⟨some 4, (.assign (.const (.bool false))), 4, none⟩])
    (.seq (.seq (.reg [] [⟨some 6, (.move (.tmp 0)), 27, none⟩,
      ⟨some 7, (.call ⟨(.builtin .len), #[(.tmp 6)], #[27]⟩), 3, none⟩,
      ⟨some 8, (.move (.tmp 1)), 27, none⟩,
      ⟨some 9, (.call ⟨(.builtin .len), #[(.tmp 8)], #[27]⟩), 3, none⟩,
      ⟨some 10, (.binOp .neq 3 (.tmp 7) (.tmp 9) 3), 4, none⟩])
    (.cond (.tmp 10)
    (.seq (.reg [] [⟨some 4, (.assign (.const (.bool false))), 4, none⟩])
    .ret)
    .skip))
    (.seq (.seq (.reg [] [⟨some 5, (.assign (.const (.int .i64 0))), 3, none⟩])
    (.block 0 (.loop (.seq (.seq (.reg [] [⟨some 11, (.move (.tmp 5)), 3, none⟩,
      ⟨some 12, (.move (.tmp 0)), 27, none⟩,
      ⟨some 13, (.call ⟨(.builtin .len), #[(.tmp 12)], #[27]⟩), 3, none⟩,
      ⟨some 14, (.binOp .lss 3 (.tmp 11) (.tmp 13) 3), 4, none⟩])
    (.cond (.tmp 14)
    .skip
    (.exit 0)))
    (.seq (.block 1 (.seq (.draw [] [⟨some 17, (.move (.tmp 0)), 27, none⟩,
      ⟨some 18, (.move (.tmp 5)), 3, none⟩,
      ⟨some 19, (.indexAddr 27 (.tmp 17) (.tmp 18)), 0, none⟩,
      ⟨some 20, (.load 62 (.tmp 19)), 62, none⟩,
      ⟨some 21, (.move (.tmp 1)), 27, none⟩,
      ⟨some 22, (.move (.tmp 5)), 3, none⟩,
      ⟨some 23, (.indexAddr 27 (.tmp 21) (.tmp 22)), 0, none⟩,
      ⟨some 24, (.load 62 (.tmp 23)), 62, none⟩,
      ⟨some 25, (.binOp .neq 62 (.tmp 20) (.tmp 24) 62), 4, none⟩] [(0, 1), (0, 4), (1, 4), (2, 4), (3, 4), (0, 5), (1, 5), (2, 5), (3, 5), (4, 5), (0, 6), (1, 6), (2, 6), (3, 6), (0, 7), (1, 7), (2, 7), (3, 7)])
    (.cond (.tmp 25)
    (.seq (.reg [] [⟨some 4, (.assign (.const (.bool false))), 4, none⟩])
    .ret)
    .skip)))
    (.reg [] [⟨some 15, (.move (.tmp 5)), 3, none⟩,
      ⟨some 16, (.binOp .add 3 (.tmp 15) (.const (.int .i64 1)) 3), 3, none⟩,
      ⟨some 5, (.assign (.tmp 16)), 3, none⟩]))))))
    (.seq (.reg [] [⟨some 4, (.assign (.const (.bool true))), 4, none⟩])
    .ret))))
theorem C16 {args : List AV} {r : AV} (hn : args.length ≤ 26) (h : vc Tryz.prog T [] A16 (Fin T [(.tmp 4)] r) ⟨envOf 0 args, []⟩) : CallP Tryz.prog 16 args r :=
  callP_of tok mixed Tryz.func16 (by kernel_rfl) (by kernel_rfl) (by kernel_rfl : Tryz.f16.ntmps = 26) (by kernel_rfl : Tryz.f16.body.bind (strip 26 (fun _ => [])) = some A16) hn h

end Go.Proofs.YtgfgkfkplidncaaGreat
end

section
/- Contracts: which tables, families and orders are right. -/
namespace Go.Proofs.YtgfgkfkplidncaaGreat
open Go.Abs Go
set_option maxRecDepth 20000
set_option maxHeartbeats 2000000
attribute [local irreducible] PreK CondK CallK CallG CallX LoopK
attribute [simp] T_27 T_61 T_62 T_66 T_67 T_94 T_95
attribute [local simp] avsEq avEq akind teq vkind vEq

@[simp] def tabV (t : Tab) : AV := .seq 1 (t.map ints) false
/-- Lists that are no longer than a statement takes. -/
structure Sm (t : Tab) : Prop where
  num : t.length ≤ 50
  row : ∀ r ∈ t, r.length ≤ 100
theorem Sm.el {t : Tab} (h : Sm t) (i : Nat) : (el t i).length ≤ 100 := by
  by_cases hi : i < t.length
  · exact h.row _ (el_mem_of t i hi)
  · unfold Go.Abs.el
    rw [List.getD_eq_getElem?_getD, List.getElem?_eq_none (by omega)]; simp [default]
theorem sbig {n : Nat} (h : n ≤ 1000) : n ≤ big := Nat.le_trans h (by decide)
theorem swithin_c (n lo hi : Int) : CallP Tryz.prog 73 [iv n, iv lo, iv hi] (bv (decide (lo ≤ n) && decide (n ≤ hi))) := by
  refine C73 (by simp) ?_
  simp [A73]
theorem notS_c (n : Int) : CallP Tryz.prog 82 [iv n] (bv (!okS n)) := by
  refine C82 (by simp) ?_
  simp [A82]
  refine CallX.pure (by simpa using swithin_c n 0 5) (by simp) (by simp) ?_
  simp [okS]
theorem isSet_c (l : List Int) (n : Int) (hl : l.length ≤ 1000) (hn : -1000 ≤ n ∧ n ≤ 1000) : CallP Tryz.prog 43 [ints l, iv n] (bv (setG (n - 1) none l)) := by
  refine C43 (by simp) ?_
  generalize hR : setG (n - 1) none l = R
  simp [A43]
  refine LoopK.by (fun i : Nat => ⟨[(9, iv i), (8, iv l.length), (7, ints l), (0, ints l), (1, iv n)], []⟩) (fun i => l.length - i) (fun i => i ≤ l.length ∧ setG (n - 1) (prevOf l i) (l.drop i) = R) 0 (by simpa [prevOf] using hR) (by simp) ?_
  intro i Q' ⟨hi, hc⟩ hq he hr
  try simp 
  refine CondK.intro (fun h => ?_) (fun h => ?_)
  · simp at h
    rw [drop_cons l i h, setG] at hc
    have e1 : ((i : Int) - 1).toNat = i - 1 := by omega
    have h1 : i - 1 < l.length := by omega
    have hprev : lessO (prevOf l i) (el l i) = (!(decide (0 < i) && decide (el l i ≤ el l (i - 1)))) := by
      unfold prevOf
      by_cases h0 : i = 0
      · simp [h0, lessO]
      · simp [h0, lessO, show 0 < i by omega]
        by_cases h6 : el l (i - 1) < el l i
        · simp [h6]
        · simp [h6]; omega
    rw [hprev] at hc
    try simp [e1, h1, h]
    repeat' (first
      | (refine CallX.pure (swithin_c (el l i) 0 (n - 1)) (by simp) (by simp) ?_; try simp [e1, h1, h])
      | (refine CallK.intro (swithin_c (el l i) 0 (n - 1)) (by simp) (by simp) ?_; try simp [e1, h1, h])
      | (refine CallG.intro (fun _ => swithin_c (el l i) 0 (n - 1)) (by simp) (by simp) ?_; try simp [e1, h1, h])
      | ((with_reducible refine PreK.intro ?_ ?_); (next => (first | omega | (intros; first | omega | (refine ⟨by omega, ?_⟩; repeat (first | assumption | constructor)) | assumption))); intro _; try simp [e1, h1, h])
      | fail)
    generalize decide (0 ≤ el l i) = b1 at *
    generalize decide (el l i ≤ n - 1) = b2 at *
    generalize decide (0 < i) = b3 at *
    generalize decide (el l i ≤ el l (i - 1)) = b4 at *
    refine CondK.intro (fun h4 => ?_) (fun h4 => ?_)
    · have : ((b1 && b2) && !(b3 && b4)) = false := by
        revert h4; cases b1 <;> cases b2 <;> cases b3 <;> cases b4 <;> simp
      rw [this] at hc
      simp only [Bool.false_and] at hc
      try simp 
      apply hr
      simp [hc]
    · have : ((b1 && b2) && !(b3 && b4)) = true := by
        revert h4; cases b1 <;> cases b2 <;> cases b3 <;> cases b4 <;> simp
      rw [this] at hc
      simp only [Bool.true_and] at hc
      repeat (refine PreK.intro (by first | omega | (intros; first | omega | (refine ⟨by omega, ?_⟩; simp_all; done) | (simp_all; done) | (simp_all; omega))) fun _ => ?_; (try simp ))
      exact hq (i + 1) _ ⟨by omega, by simpa [prevOf] using hc⟩ (by omega) (by simp)
  · simp at h
    rw [List.drop_eq_nil_of_le (by omega)] at hc
    simp [setG] at hc
    try simp 
    apply he
    simp [hc]
theorem rIsSet_c (l : List Int) (n : Int) (hl : l.length ≤ 1000) (hn : -1000 ≤ n ∧ n ≤ 1000) : CallP Tryz.prog 51 [ints l, iv 0, iv n] (bv (setG n none l)) := by
  refine C51 (by simp) ?_
  generalize hR : setG n none l = R
  simp [A51]
  refine LoopK.by (fun i : Nat => ⟨[(7, iv i), (0, ints l), (1, iv 0), (2, iv n)], []⟩) (fun i => l.length - i) (fun i => i ≤ l.length ∧ setG n (prevOf l i) (l.drop i) = R) 0 (by simpa [prevOf] using hR) (by simp) ?_
  intro i Q' ⟨hi, hc⟩ hq he hr
  try simp 
  refine CondK.intro (fun h => ?_) (fun h => ?_)
  · simp at h
    rw [drop_cons l i h, setG] at hc
    have e1 : ((i : Int) - 1).toNat = i - 1 := by omega
    have h1 : i - 1 < l.length := by omega
    have hprev : lessO (prevOf l i) (el l i) = (!(decide (0 < i) && decide (el l i ≤ el l (i - 1)))) := by
      unfold prevOf
      by_cases h0 : i = 0
      · simp [h0, lessO]
      · simp [h0, lessO, show 0 < i by omega]
        by_cases h6 : el l (i - 1) < el l i
        · simp [h6]
        · simp [h6]; omega
    rw [hprev] at hc
    try simp [e1, h1, h]
    repeat' (first
      | (refine CallX.pure (within1_c (el l i) 0 n) (by simp) (by simp) ?_; try simp [e1, h1, h])
      | (refine CallK.intro (within1_c (el l i) 0 n) (by simp) (by simp) ?_; try simp [e1, h1, h])
      | (refine CallG.intro (fun _ => within1_c (el l i) 0 n) (by simp) (by simp) ?_; try simp [e1, h1, h])
      | ((with_reducible refine PreK.intro ?_ ?_); (next => (first | omega | (intros; first | omega | (refine ⟨by omega, ?_⟩; repeat (first | assumption | constructor)) | assumption))); intro _; try simp [e1, h1, h])
      | fail)
    generalize decide (0 ≤ el l i) = b1 at *
    generalize decide (el l i ≤ n) = b2 at *
    generalize decide (0 < i) = b3 at *
    generalize decide (el l i ≤ el l (i - 1)) = b4 at *
    refine CondK.intro (fun h4 => ?_) (fun h4 => ?_)
    · have : ((b1 && b2) && !(b3 && b4)) = false := by
        revert h4; cases b1 <;> cases b2 <;> cases b3 <;> cases b4 <;> simp
      rw [this] at hc
      simp only [Bool.false_and] at hc
      try simp 
      apply hr
      simp [hc]
    · have : ((b1 && b2) && !(b3 && b4)) = true := by
        revert h4; cases b1 <;> cases b2 <;> cases b3 <;> cases b4 <;> simp
      rw [this] at hc
      simp only [Bool.true_and] at hc
      repeat (refine PreK.intro (by first | omega | (intros; first | omega | (refine ⟨by omega, ?_⟩; simp_all; done) | (simp_all; done) | (simp_all; omega))) fun _ => ?_; (try simp ))
      exact hq (i + 1) _ ⟨by omega, by simpa [prevOf] using hc⟩ (by omega) (by simp)
  · simp at h
    rw [List.drop_eq_nil_of_le (by omega)] at hc
    simp [setG] at hc
    try simp 
    apply he
    simp [hc]
theorem ValidateFamily_c (n : Int) (f : List (List Int)) (h : Sm f) : CallP Tryz.prog 54 [iv n, tabV f] (iv (famErr n f)) := by
  refine C54 (by simp) ?_
  have hn := h.num
  generalize hR : famErr n f = R
  unfold famErr at hR
  simp [A54]
  have hw := swithin_c n 1 6
  generalize hb : (decide (1 ≤ n) && decide (n ≤ 6)) = b at hR hw
  cases b with
  | false =>
    try simp 
    repeat' (first
      | (refine CallX.pure (hw) (by simp) (by simp) ?_; try simp )
      | (refine CallK.intro (hw) (by simp) (by simp) ?_; try simp )
      | (refine CallG.intro (fun _ => hw) (by simp) (by simp) ?_; try simp )
      | ((with_reducible refine PreK.intro ?_ ?_); (next => (first | omega | (intros; first | omega | (refine ⟨by omega, ?_⟩; repeat (first | assumption | constructor)) | assumption))); intro _; try simp )
      | fail)
    refine CondK.tt ?_
    try simp 
    simpa using hR
  | true =>
    simp only [Bool.and_eq_true, decide_eq_true_eq] at hb
    simp only [Bool.not_true, Bool.false_eq_true, if_false] at hR
    try simp 
    repeat' (first
      | (refine CallX.pure (hw) (by simp) (by simp) ?_; try simp )
      | (refine CallK.intro (hw) (by simp) (by simp) ?_; try simp )
      | (refine CallG.intro (fun _ => hw) (by simp) (by simp) ?_; try simp )
      | ((with_reducible refine PreK.intro ?_ ?_); (next => (first | omega | (intros; first | omega | (refine ⟨by omega, ?_⟩; repeat (first | assumption | constructor)) | assumption))); intro _; try simp )
      | fail)
    refine CondK.ff ?_
    try simp 
    try simp 
    refine CondK.intro (fun h1 => ?_) (fun h1 => ?_)
    · simp at h1
      rw [if_pos (by omega)] at hR
      try simp 
      exact hR
    · simp at h1
      rw [if_neg (by omega)] at hR
      try simp 
      refine LoopK.by (fun i : Nat => ⟨[(15, iv i), (14, iv f.length), (13, tabV f), (0, iv n)], []⟩) (fun i => f.length - i) (fun i => i ≤ f.length ∧ (if (f.drop i).any (famBad n) = true then 1 else 0) = R) 0 (by simpa using hR) (by simp) ?_
      intro i Q' ⟨hi, hc⟩ hq he hr
      try simp 
      refine CondK.intro (fun h2 => ?_) (fun h2 => ?_)
      · simp at h2
        have hel := h.el i
        rw [drop_cons f i h2, List.any_cons] at hc
        have hs := isSet_c (el f i) n (by omega) (by omega)
        unfold famBad at hc
        generalize setG (n - 1) none (el f i) = b at hs hc
        by_cases h3 : el f i = []
        · simp only [h3, decide_true, Bool.true_or, if_true] at hc
          try simp [h2, h3]
          repeat (refine PreK.intro (by first | omega | (intros; first | omega | (refine ⟨by omega, ?_⟩; simp_all; done) | (simp_all; done) | (simp_all; omega))) fun _ => ?_; (try simp [h2, h3]))
          refine CallG.intro (r := bv true) (fun hh => by cases hh) (by simp) (by simp) ?_
          try simp 
          repeat (refine PreK.intro (by first | omega | (intros; first | omega | (refine ⟨by omega, ?_⟩; simp_all; done) | (simp_all; done) | (simp_all; omega))) fun _ => ?_; (try simp ))
          refine CondK.tt ?_
          try simp 
          apply hr
          simp [hc]
        · have h3' : ¬ (el f i).length = 0 := fun e => h3 (List.eq_nil_of_length_eq_zero e)
          simp only [h3, decide_false, Bool.false_or] at hc
          try simp [h2, h3, h3']
          repeat' (first
            | (refine CallX.pure (hs) (by simp) (by simp) ?_; try simp [h2, h3, h3'])
            | (refine CallK.intro (hs) (by simp) (by simp) ?_; try simp [h2, h3, h3'])
            | (refine CallG.intro (fun _ => hs) (by simp) (by simp) ?_; try simp [h2, h3, h3'])
            | ((with_reducible refine PreK.intro ?_ ?_); (next => (first | omega | (intros; first | omega | (refine ⟨by omega, ?_⟩; repeat (first | assumption | constructor)) | assumption))); intro _; try simp [h2, h3, h3'])
            | fail)
          refine CondK.intro (fun h4 => ?_) (fun h4 => ?_)
          · rw [h4] at hc
            simp only [Bool.true_or, if_true] at hc
            try simp 
            apply hr
            simp [hc]
          · rw [h4] at hc
            simp only [Bool.false_or] at hc
            repeat (refine PreK.intro (by first | omega | (intros; first | omega | (refine ⟨by omega, ?_⟩; simp_all; done) | (simp_all; done) | (simp_all; omega))) fun _ => ?_; (try simp ))
            exact hq (i + 1) _ ⟨by omega, hc⟩ (by omega) (by simp)
      · simp at h2
        rw [List.drop_eq_nil_of_le (by omega)] at hc
        simp only [List.any_nil, Bool.false_eq_true, if_false] at hc
        try simp 
        apply he
        try simp 
        exact hc
end Go.Proofs.YtgfgkfkplidncaaGreat
end

section
/- Plain: classes of tables of which rows are joined, made two, renamed. -/
namespace Go.Proofs.YtgfgkfkplidncaaGreat
open Go.Abs Go

theorem class_up {t : Tab} (ht : TabOK t) {x : List Int} (hx : x ∈ classesM t) : x.Pairwise (· < ·) ∧ (∀ y ∈ x, 0 ≤ y ∧ y ≤ 5) ∧ x.length ≤ 6 := by
  obtain ⟨s, r, h1, h2, rfl⟩ := (mem_classes ht).1 hx
  have h3 : ∀ y ∈ standM t s r, 0 ≤ y ∧ y ≤ 5 := fun y hy => seg_val ht (mem_sortI.1 hy)
  have h4 := sortI_lt (seg_nd ht s r)
  exact ⟨h4, h3, six_len (pairwise_lt_nodup h4) h3⟩
end Go.Proofs.YtgfgkfkplidncaaGreat
end

section
/- Plain: names sorted. -/
namespace Go.Proofs.YtgfgkfkplidncaaGreat
open Go.Abs Go

def leNB (a b : Int × Int) : Bool := decide (a.1 < b.1) || (decide (a.1 = b.1) && decide (a.2 ≤ b.2))
def sortN (l : List (Int × Int)) : List (Int × Int) := l.mergeSort leNB
theorem sortN_perm (l : List (Int × Int)) : (sortN l).Perm l := List.mergeSort_perm _ _
theorem sortN_sorted (l : List (Int × Int)) : (sortN l).Pairwise fun a b => leNB a b = true := by
  refine List.pairwise_mergeSort (le := leNB) (fun a b c h1 h2 => ?_) (fun a b => ?_) l
  · simp only [leNB, Bool.or_eq_true, Bool.and_eq_true, decide_eq_true_eq] at *; omega
  · simp only [leNB, Bool.or_eq_true, Bool.and_eq_true, decide_eq_true_eq] at *; omega
theorem leNB_anti {a b : Int × Int} (h1 : leNB a b = true) (h2 : leNB b a = true) : a = b := by
  simp only [leNB, Bool.or_eq_true, Bool.and_eq_true, decide_eq_true_eq] at *
  exact Prod.ext (by omega) (by omega)
theorem sortN_eq {l m : List (Int × Int)} (hp : l.Perm m) (hs : m.Pairwise fun a b => leNB a b = true) : sortN l = m :=
  List.Perm.eq_of_pairwise (le := fun a b : Int × Int => leNB a b = true) (fun a b _ _ h1 h2 => leNB_anti h1 h2) (sortN_sorted l) hs ((sortN_perm l).trans hp)
theorem sort_names {t : Tab} (h : TabOK t) : sortN (allM t) = namesM t :=
  sortN_eq (names_perm h) ((namesM_sorted t).imp fun {a b} h => by
    unfold ltN at h
    simp only [leNB, Bool.or_eq_true, Bool.and_eq_true, decide_eq_true_eq]
    omega)
theorem flat_le (t : Tab) (h : ∀ r ∈ t, r.length ≤ 100) : t.flatten.length ≤ t.length * 100 := by
  induction t with
  | nil => simp
  | cons r t ih =>
    have h1 := h r (by simp)
    have h2 := ih fun x hx => h x (by simp [hx])
    simp only [List.flatten_cons, List.length_append, List.length_cons, Nat.succ_mul]
    omega
theorem names_num {t : Tab} (h : TabOK t) : (namesM t).length ≤ 36 := by
  have h1 := flat_len (namesS t) 6 six fun s _ => by
    unfold namesS rangeP
    have := h.num
    split
    · simp; omega
    · simp
  simpa [namesM, six] using h1
theorem any_contains (l : List Int) (n : Int) : (l.any fun x => decide (n = x)) = l.contains n := by
  rw [Bool.eq_iff_iff, List.any_eq_true, List.contains_iff_mem]
  constructor
  · rintro ⟨x, hx, e⟩
    simp only [decide_eq_true_eq] at e
    rw [e]; exact hx
  · intro h
    exact ⟨n, h, by simp⟩
theorem el_ids {n i : Nat} (h : i < n) : el (idsN n) i = (i : Int) := by
  simp [idsN, el, List.getD_eq_getElem?_getD, h]
/-- A list without doubles loses nothing where equal neighbours are left out. -/
theorem nodup_comp (l : List Int) : (compI (sortI l)).length = l.length ↔ l.Nodup := by
  rw [diffN_comp]
  constructor
  · intro h
    have h1 : (freshL [] l).Perm l := perm_of_sub nodup_freshL (fun x hx => (mem_freshL.1 hx).1) (by unfold diffN at h; omega)
    exact h1.nodup_iff.1 nodup_freshL
  · intro h
    exact diffN_of h fun x => Iff.rfl
theorem take_nodup {l : List Int} {i : Nat} (h : (l.take i).Nodup) (hi : i < l.length) : (l.take (i + 1)).Nodup ↔ el l i ∉ l.take i := by
  rw [take_succ l i hi, List.nodup_append]
  constructor
  · rintro ⟨_, _, h3⟩ hm
    exact h3 _ hm _ (by simp) rfl
  · intro hn
    exact ⟨h, by simp, fun a ha b hb e => by simp only [List.mem_singleton] at hb; subst hb; subst e; exact hn ha⟩
end Go.Proofs.YtgfgkfkplidncaaGreat
end

section
/- The library's sort of words, over a lent box. -/
namespace Go.Proofs.YtgfgkfkplidncaaGreat
open Go.Abs Go
/-! ### the library's sort -/
section
open Go.Sort Go.Shelf
variable {P : Program} {ρ : Ren}

/-- A word and the value that reads so. -/
abbrev Cell (w : World) (Y : Nat → Prop) := { p : List Int × Value // Rep w Y Mu.none (ints p.1) p.2 }
instance {w : World} {Y : Nat → Prop} : Inhabited (Cell w Y) := ⟨⟨([], .slice none 0 0), .nil⟩⟩
def cellV {w : World} {Y : Nat → Prop} (x : Cell w Y) : Value := x.1.2
def cellC {w : World} {Y : Nat → Prop} (x y : Cell w Y) : Int := cmpW x.1.1 y.1.1
theorem cellV_one {w : World} {Y : Nat → Prop} : OneCell (cellV (w := w) (Y := Y)) := by
  intro ⟨⟨l, v⟩, h⟩
  unfold cellV
  simp only [ints] at h ⊢
  generalize l.map iv = m at h
  cases h <;> rfl
theorem cell_big {w : World} {Y : Nat → Prop} {l : List Int} {v : Value} (h : Rep w Y Mu.none (ints l) v) : l.length ≤ big := by
  simp only [ints] at h
  have e : l.length = (l.map iv).length := by simp
  rw [e]
  generalize l.map iv = m at h
  cases h with
  | nil => simp
  | seq hY hb hc hf hbig hfit hw h1 h => exact hbig
theorem cellC_lt {w : World} {Y : Nat → Prop} (x y : Cell w Y) : ltOf cellC x y = bef x.1.1 y.1.1 := by
  unfold ltOf cellC cmpW
  by_cases h : x.1.1 = y.1.1
  · rw [if_pos h, h, bef_irr]; simp
  · rw [if_neg h]
    cases bef x.1.1 y.1.1 <;> simp
theorem cell_swo {w : World} {Y : Nat → Prop} : SWO (ltOf (cellC (w := w) (Y := Y))) := by
  refine ⟨fun x => ?_, fun x y z h1 h2 => ?_, fun x y z h1 h2 => ?_⟩
  · rw [cellC_lt, bef_irr]
  · rw [cellC_lt] at h1 h2 ⊢
    exact bef_trans h1 h2
  · rw [cellC_lt] at h1 h2 ⊢
    exact bef_no_trans h2 h1
theorem grows_eq {w w' : World} (h : Grows w w') : w' = Go.Sort.grow (w.drewN (w'.drawn - w.drawn)) (w'.heap.extract w.heap.size w'.heap.size) := by
  obtain ⟨⟨h1, h2⟩, h3, h4, h5, h6⟩ := h
  cases w
  cases w'
  unfold Go.Sort.grow World.drewN
  simp only at h1 h2 h3 h4 h5 h6 ⊢
  simp only [World.mk.injEq]
  refine ⟨?_, h3, by omega, h1, h4⟩
  apply Array.ext_getElem?
  intro k
  rw [Array.getElem?_append]
  split
  · rename_i hk; exact h6 k hk
  · rename_i hk
    rw [Array.getElem?_extract]
    split
    · congr 1; omega
    · rename_i h7
      rw [Array.getElem?_eq_none (by omega)]
theorem sortWorld_other {α : Type} [Inhabited α] {enc : α → Value} {w : World} {blk off m : Nat} {dk : Array α} {os : Array Obj} {b : Nat} (hb : b < w.heap.size) (hne : b ≠ blk) : (Go.Proofs.sortWorld enc w blk off m dk os).heap[b]? = w.heap[b]? := by
  unfold Go.Proofs.sortWorld Go.Sort.grow Go.Sort.putRow Go.Sort.mapBlock Go.Sort.ahead
  simp only
  rw [Array.getElem?_append_left (by simpa using hb), Array.getElem?_modify, if_neg (Ne.symm hne)]
theorem sortWorld_at {α : Type} [Inhabited α] {enc : α → Value} {w : World} {blk off m : Nat} {dk : Array α} {os : Array Obj} {c : Array Value} {e : TypeId} {fr : Nat × Nat} (hb : w.heap[blk]? = some (.cells c e fr)) : (Go.Proofs.sortWorld enc w blk off m dk os).heap[blk]? = some (.cells (Go.Sort.putCells enc off dk c) e fr) := by
  have hlt := lt_of_heap hb
  unfold Go.Proofs.sortWorld Go.Sort.grow Go.Sort.putRow Go.Sort.mapBlock Go.Sort.ahead
  simp only
  rw [Array.getElem?_append_left (by simpa using hlt), Array.getElem?_modify, if_pos rfl, hb]
  rfl
theorem sortWorld_size {α : Type} [Inhabited α] {enc : α → Value} {w : World} {blk off m : Nat} {dk : Array α} {os : Array Obj} : w.heap.size ≤ (Go.Proofs.sortWorld enc w blk off m dk os).heap.size := by
  unfold Go.Proofs.sortWorld Go.Sort.grow Go.Sort.putRow Go.Sort.mapBlock Go.Sort.ahead
  simp
theorem putCells_getD {α : Type} [Inhabited α] {enc : α → Value} {off : Nat} {d : Array α} {c : Array Value} {k : Nat} (hk : k < c.size) : (Go.Sort.putCells enc off d c).getD k undef = if off ≤ k ∧ k < off + d.size then enc d[k - off]! else c.getD k undef := by
  unfold Go.Sort.putCells
  simp [Array.getD, hk]
/-- The library's sort of words, over a lent row. -/
theorem callL_sort (L : SlLaysF.n6 P ρ) {g : FuncId} (hg : ∀ a b : List Int, a.length ≤ big → b.length ≤ big → CallP P g [ints a, ints b] (iv (cmpW a b))) (d : List (List Int)) :
    CallL P (ρ.f 6) [] 1 (d.map ints) [.fn g [] []] (.val (.tup [])) ((sortW d).map ints) := by
  have hsl : (sortW d).length = d.length := (sortW_perm d).length_eq
  refine ⟨?_, fun w X l vs hv hsz hX hXl hh hlen hargs => ?_⟩
  · obtain ⟨nm, hn, hf⟩ := L.f6
    exact ⟨_, hf, by simpa using hn, by simp [SlBodyF.n6]⟩
  obtain ⟨v0, v1, rfl⟩ : ∃ v0 v1, vs = #[v0, v1] := by
    cases vs with
    | mk l =>
      match l, hlen with
      | [a, b], _ => exact ⟨a, b, rfl⟩
  have h0 : Rep w (Yof X (mu1 l)) (mu1 l) (.sl lid 0 0 (d.map ints).length) v0 := hargs 0 (by simp)
  have h1 : Rep w (Yof X (mu1 l)) (mu1 l) (.fn g [] []) v1 := hargs 1 (by simp)
  generalize hn : (d.map ints).length = n at h0
  simp only [List.length_map] at hn
  cases h1 with
  | @fn _ _ _ _ fs cs hs ht _ _ =>
  obtain rfl : fs = #[] := Array.eq_empty_of_size_eq_zero hs
  obtain rfl : cs = #[] := Array.eq_empty_of_size_eq_zero ht
  cases h0 with
  | slOld hm hv' =>
    simp only [mu1, if_true, Option.some.injEq] at hm
    subst hm
    omega
  | slNil hm hv' =>
    obtain rfl : d = [] := List.eq_nil_of_length_eq_zero hn
    refine (AnyF.slices_SortFunc_none (P := P) (ρ := ρ) { L with } _ 0 _ w).mono fun e w' ⟨he, hw⟩ => ?_
    subst hw
    exact ⟨_, he, Ext.refl _ _, hh, .tup rfl fun i hi => absurd hi (by simp)⟩
  | @sl _ _ _ _ _ cap loc g0 n0 hm hv' hb hc hfit hz =>
    simp only [mu1, if_true, Option.some.injEq] at hm
    subst hm
    subst hn
    obtain ⟨hbig, hh⟩ := hh
    rw [hb] at hh
    obtain ⟨c, el, hheap, hcs, hlen', hone, hrep⟩ := hh.1 (by simp)
    rw [hsz] at hfit
    simp only [Nat.zero_mul, Nat.add_zero, Nat.zero_add, Nat.mul_one, List.length_map, hsz] at hfit hlen' ⊢
    let Y : Nat → Prop := Yof X (mu1 l)
    have hY0 : Y g0 := .inr (blks_mu1.2 ⟨n0, hb⟩)
    have hYlt : ∀ b, Y b → b < w.heap.size := by
      rintro b (hx | hx)
      · exact hX b hx
      · obtain ⟨n, hn⟩ := blks_mu1.1 hx
        rw [hb] at hn
        simp only [Option.some.injEq, Prod.mk.injEq] at hn
        rw [← hn.1]
        exact lt_of_heap hheap
    have hcell : ∀ i : Fin d.length, Rep w Y Mu.none (ints d[i]) (c.getD (l.base + i) undef) := by
      intro i
      have := (hrep i (by simp)).2
      simp only [List.getD_eq_getElem?_getD, List.getElem?_map, List.getElem?_eq_getElem i.2, Option.map_some, Option.getD_some, Nat.mul_one, if_false, Bool.false_eq_true] at this
      exact this
    let arr : Array (Cell w Y) := Array.ofFn (n := d.length) fun i => ⟨(d[i], c.getD (l.base + i) undef), hcell i⟩
    have harr : arr.size = d.length := Array.size_ofFn
    have hget : ∀ i (hi : i < d.length), arr[i]! = ⟨(d[i], c.getD (l.base + i) undef), hcell ⟨i, hi⟩⟩ := by
      intro i hi
      rw [getElem!_pos arr i (by rw [harr]; exact hi)]
      exact Array.getElem_ofFn ..
    have hwords : arr.toList.map (fun x => x.1.1) = d := by
      apply List.ext_getElem
      · rw [List.length_map, Array.length_toList, harr]
      · intro i h1 h2
        rw [List.getElem_map, Array.getElem_toList, ← getElem!_pos arr i (by rw [harr]; exact h2), hget i h2]
    have hmono : ∀ {m : Nat} {dk : Array (Cell w Y)} {os : Array Obj} {a : AV} {v : Value}, Rep w Y Mu.none a v → Rep (Go.Proofs.sortWorld cellV w g0 l.base m dk os) Y Mu.none a v := by
      intro m dk os a v h
      refine h.mono (fun b hb' hlt => ⟨hb', sortWorld_other hlt ?_⟩) (Mu.later.refl _)
      rintro rfl
      exact hb' hY0
    have hkey := Any.slices_SortFunc L (cellV (w := w) (Y := Y)) cellV_one cellC cell_swo g #[] g0 l.base cap arr w ?_ ?_ ?_ (lt_of_heap hheap) ?_
    · rw [harr] at hkey
      refine hkey.mono fun e w' ⟨he, d', n, os, hp, hs, hw⟩ => ?_
      obtain ⟨hp1, _, hp2⟩ := hp
      rw [harr] at hp1
      have hd' : d'.toList.map (fun x => x.1.1) = sortW d := by
        refine order_same ?_ ?_ (sortW_order d)
        · have e1 : d'.extract 0 d.length = d' := by rw [← hp1]; exact Array.extract_size
          have e2 : arr.extract 0 d.length = arr := by rw [← harr]; exact Array.extract_size
          rw [e1, e2] at hp2
          exact ((hp2.map (fun x => x.1.1)).trans (by rw [hwords])).trans (sortW_perm d).symm
        · unfold inOrder
          rw [List.pairwise_map, List.pairwise_iff_getElem]
          intro i j hi hj hij
          have := hs i j (Nat.zero_le _) hij (by simpa [hp1] using hj)
          rw [cellC_lt, getElem!_pos d' j (by simpa using hj), getElem!_pos d' i (by simpa using hi)] at this
          simpa using this
      subst hw
      refine ⟨_, he, ⟨⟨rfl, ?_⟩, rfl, rfl, sortWorld_size, fun b hlt hno => sortWorld_other hlt ?_⟩, ⟨by simpa [hsl] using hbig, ?_⟩, .tup rfl fun i hi => absurd hi (by simp)⟩
      · exact Nat.le_add_right _ _
      · rintro rfl
        exact hno (blks_mu1.2 ⟨n0, hb⟩)
      · rw [hb]
        refine ⟨fun _ => ⟨_, el, sortWorld_at hheap, by simpa [Go.Sort.putCells] using hcs, by simpa [hsl] using hlen', fun j hj => ?_, fun i hi => ?_⟩, fun h => by cases h⟩
        · rw [putCells_getD (by omega)]
          split
          · exact cellV_one _
          · exact hone j hj
        · have hi' : i < d.length := by simpa [hsl] using hi
          have hi2 : i < d'.toList.length := by simpa [hp1] using hi'
          have e3 : (List.map ints (sortW d)).getD i .junk = ints (d'[i]!).1.1 := by
            rw [← hd', List.map_map, List.getD_eq_getElem?_getD, List.getElem?_map, List.getElem?_eq_getElem hi2, getElem!_pos d' i (by simpa using hi2)]
            simp
          rw [e3]
          have hi3 : i < d'.size := by rw [hp1]; exact hi'
          have hlt : l.base + i * 1 < c.size := by rw [hcs]; omega
          refine ⟨rfl, ?_⟩
          show Rep _ _ Mu.none _ ((Go.Sort.putCells cellV l.base d' c).getD (l.base + i * 1) undef)
          rw [putCells_getD hlt, if_pos (by omega), show l.base + i * 1 - l.base = i by omega]
          exact hmono (d'[i]!).2
    · intro args w1
      obtain ⟨fn, hf, hname, hbody⟩ := (hg [] [] (by simp) (by simp)).1
      cases hb2 : fn.body with
      | none => exact absurd hb2 hbody
      | some code => exact enters_of hf (by simpa using hname) hb2 args w1
    · intro m os dk hdk x y
      refine ((hg x.1.1 y.1.1 (cell_big x.2) (cell_big y.2)).2 _ Y _ (fun b hb' => Nat.lt_of_lt_of_le (hYlt b hb') sortWorld_size) rfl fun i hi => ?_).mono ?_
      · match i, hi with
        | 0, _ => exact hmono x.2
        | 1, _ => exact hmono y.2
      · rintro e w' ⟨v, he, hgw, hr⟩
        obtain ⟨rfl, _⟩ := hr.one
        exact ⟨he, _, _, grows_eq hgw⟩
    · intro j hj
      rw [harr] at hj
      rw [hget j hj]
      have hlt : l.base + j < c.size := by omega
      refine ⟨?_, ?_⟩
      · unfold World.cell?
        simp only [hheap]
        simp [cellV, Array.getD, hlt]
      · unfold World.frozen?
        simp [hheap]
    · rw [harr]
      simp only [List.length_map, big] at hbig
      omega
end
end Go.Proofs.YtgfgkfkplidncaaGreat
end

section
/- The library's sort of words at this program: where its functions and types stand (written by the kit's tool lay-plain), and its contract. -/
namespace Go.Proofs.YtgfgkfkplidncaaGreat
open Go.Abs Go Go.Shelf
def lsort_ren : Go.Shelf.Ren := ⟨fun | 6 => 92 | 15 => 105 | 14 => 110 | 28 => 121 | 29 => 122 | 20 => 134 | 21 => 135 | 22 => 136 | 23 => 137 | 24 => 138 | 25 => 139 | 26 => 140 | 27 => 141 | 46 => 151 | 47 => 144 | 48 => 145 | 49 => 152 | 50 => 153 | 57 => 156 | n => n, fun | 22 => 22 | 24 => 23 | 25 => 102 | 3 => 3 | 39 => 113 | 0 => 0 | 53 => 130 | 55 => 132 | 4 => 4 | 46 => 123 | 45 => 122 | 50 => 127 | 5 => 5 | 9 => 9 | 66 => 148 | 70 => 152 | 76 => 158 | 77 => 105 | n => n, fun | n => n⟩
theorem lsort : Go.Proofs.SlLaysF.n6 Tryz.prog lsort_ren := {
  mixed := by kernel_rfl
  f6 := ⟨Tryz.f92.name, by decide, Tryz.func92.trans (congrArg some (by kernel_rfl))⟩
  f14 := ⟨Tryz.f110.name, by decide, Tryz.func110.trans (congrArg some (by kernel_rfl))⟩
  f15 := Tryz.func105.trans (congrArg some (by kernel_rfl))
  f20 := ⟨Tryz.f134.name, by decide, Tryz.func134.trans (congrArg some (by kernel_rfl))⟩
  f21 := ⟨Tryz.f135.name, by decide, Tryz.func135.trans (congrArg some (by kernel_rfl))⟩
  f22 := ⟨Tryz.f136.name, by decide, Tryz.func136.trans (congrArg some (by kernel_rfl))⟩
  f23 := ⟨Tryz.f137.name, by decide, Tryz.func137.trans (congrArg some (by kernel_rfl))⟩
  f24 := ⟨Tryz.f138.name, by decide, Tryz.func138.trans (congrArg some (by kernel_rfl))⟩
  f25 := ⟨Tryz.f139.name, by decide, Tryz.func139.trans (congrArg some (by kernel_rfl))⟩
  f26 := ⟨Tryz.f140.name, by decide, Tryz.func140.trans (congrArg some (by kernel_rfl))⟩
  f27 := ⟨Tryz.f141.name, by decide, Tryz.func141.trans (congrArg some (by kernel_rfl))⟩
  f28 := Tryz.func121.trans (congrArg some (by kernel_rfl))
  f29 := Tryz.func122.trans (congrArg some (by kernel_rfl))
  f46 := ⟨Tryz.f151.name, by decide, Tryz.func151.trans (congrArg some (by kernel_rfl))⟩
  f47 := Tryz.func144.trans (congrArg some (by kernel_rfl))
  f48 := Tryz.func145.trans (congrArg some (by kernel_rfl))
  f49 := ⟨Tryz.f152.name, by decide, Tryz.func152.trans (congrArg some (by kernel_rfl))⟩
  f50 := ⟨Tryz.f153.name, by decide, Tryz.func153.trans (congrArg some (by kernel_rfl))⟩
  f57 := ⟨Tryz.f156.name, by decide, Tryz.func156.trans (congrArg some (by kernel_rfl))⟩
  t0 := Tryz.underlying0
  a0 := Tryz.isAgg0
  z0 := Tryz.sizeOf0
  v0 := Tryz.zeroValue0
  t3 := Tryz.underlying3
  a3 := Tryz.isAgg3
  z3 := Tryz.sizeOf3
  v3 := Tryz.zeroValue3
  t4 := Tryz.underlying4
  a4 := Tryz.isAgg4
  z4 := Tryz.sizeOf4
  v4 := Tryz.zeroValue4
  t5 := Tryz.underlying5
  a5 := Tryz.isAgg5
  z5 := Tryz.sizeOf5
  v5 := Tryz.zeroValue5
  t9 := Tryz.underlying9
  a9 := Tryz.isAgg9
  z9 := Tryz.sizeOf9
  v9 := Tryz.zeroValue9
  t22 := Tryz.underlying22
  a22 := Tryz.isAgg22
  z22 := Tryz.sizeOf22
  v22 := Tryz.zeroValue22
  a24 := Tryz.isAgg23
  z24 := Tryz.sizeOf23
  t25 := Tryz.underlying102
  a25 := Tryz.isAgg102
  z25 := Tryz.sizeOf102
  v25 := Tryz.zeroValue102
  t39 := Tryz.underlying113
  a39 := Tryz.isAgg113
  z39 := Tryz.sizeOf113
  v39 := Tryz.zeroValue113
  t45 := Tryz.underlying122
  a45 := Tryz.isAgg122
  z45 := Tryz.sizeOf122
  v45 := Tryz.zeroValue122
  t46 := Tryz.underlying123
  a46 := Tryz.isAgg123
  z46 := Tryz.sizeOf123
  v46 := Tryz.zeroValue123
  t50 := Tryz.underlying127
  a50 := Tryz.isAgg127
  z50 := Tryz.sizeOf127
  v50 := Tryz.zeroValue127
  t53 := Tryz.underlying130
  a53 := Tryz.isAgg130
  z53 := Tryz.sizeOf130
  v53 := Tryz.zeroValue130
  t55 := Tryz.underlying132
  a55 := Tryz.isAgg132
  z55 := Tryz.sizeOf132
  v55 := Tryz.zeroValue132
  t66 := Tryz.underlying148
  a66 := Tryz.isAgg148
  z66 := Tryz.sizeOf148
  v66 := Tryz.zeroValue148
  t70 := Tryz.underlying152
  a70 := Tryz.isAgg152
  z70 := Tryz.sizeOf152
  v70 := Tryz.zeroValue152
  t76 := Tryz.underlying158
  a76 := Tryz.isAgg158
  z76 := Tryz.sizeOf158
  v76 := Tryz.zeroValue158
  t77 := Tryz.underlying105
  a77 := Tryz.isAgg105
  z77 := Tryz.sizeOf105
  v77 := Tryz.zeroValue105 }
end Go.Proofs.YtgfgkfkplidncaaGreat
end

section
/- The library's sort of numbers, over a lent box. -/
namespace Go.Proofs.YtgfgkfkplidncaaGreat
open Go.Abs Go
section
open Go.Shelf
variable {P : Program} {ρ : Ren}
theorem callL_sortI (L : Lays.n189 P ρ) (d : List Int) : CallL P (ρ.f 189) [] 1 (d.map iv) [] (.val (.tup [])) ((sortI d).map iv) := by
  have hsl := sortI_len d
  refine ⟨?_, fun w X l vs hv hsz hX hXl hh hlen hargs => ?_⟩
  · exact ⟨_, L.f189, by simp [Body.n189], by simp [Body.n189]⟩
  obtain ⟨v0, rfl⟩ : ∃ v0, vs = #[v0] := by
    cases vs with
    | mk l =>
      match l, hlen with
      | [a], _ => exact ⟨a, rfl⟩
  have h0 : Rep w (Yof X (mu1 l)) (mu1 l) (.sl lid 0 0 (d.map iv).length) v0 := hargs 0 (by simp)
  generalize hn : (d.map iv).length = n at h0
  simp only [List.length_map] at hn
  cases h0 with
  | slOld hm hv' =>
    simp only [mu1, if_true, Option.some.injEq] at hm
    subst hm
    omega
  | slNil hm hv' =>
    obtain rfl : d = [] := List.eq_nil_of_length_eq_zero hn
    refine (Any.slices_Sort_int_none L _ 0 w).mono fun e w' ⟨he, hw⟩ => ?_
    subst hw
    exact ⟨_, he, Ext.refl _ _, by simpa [sortI] using hh, .tup rfl fun i hi => absurd hi (by simp)⟩
  | @sl _ _ _ _ _ cap loc g0 n0 hm hv' hb hc hfit hz =>
    simp only [mu1, if_true, Option.some.injEq] at hm
    subst hm
    subst hn
    obtain ⟨hbig, hh⟩ := hh
    rw [hb] at hh
    obtain ⟨c, el, hheap, hcs, hlen', hone, hrep⟩ := hh.1 (by simp)
    rw [hsz] at hfit
    simp only [Nat.zero_mul, Nat.add_zero, Nat.zero_add, Nat.mul_one, List.length_map, hsz] at hfit hlen' ⊢
    have hcell : ∀ i, i < d.length → c.getD (l.base + i) undef = .int .i64 (d[i]!) := by
      intro i hi
      have := (hrep i (by simpa using hi)).2
      simp only [List.getD_eq_getElem?_getD, List.getElem?_map, List.getElem?_eq_getElem hi, Option.map_some, Option.getD_some, Nat.mul_one, if_false, Bool.false_eq_true, elemVal] at this
      rw [getElem!_pos d i hi]
      exact this.one.1
    refine (Any.slices_Sort_int L g0 l.base cap d w (fun j hj => ?_) (lt_of_heap hheap) (by simp only [List.length_map, big] at hbig; omega)).mono fun e w' ⟨he, n, os, hw⟩ => ?_
    · have hj' : j < d.length := by simpa using hj
      have hlt : l.base + j < c.size := by omega
      have h3 := hcell j hj'
      refine ⟨?_, ?_⟩
      · unfold World.cell?
        simp only [hheap]
        simp only [Array.getD_eq_getD_getElem?, Array.getElem?_eq_getElem hlt, Option.getD_some] at h3
        simp [hlt, h3, hj']
      · unfold World.frozen?
        simp [hheap]
    · have hw2 : w' = Go.Proofs.sortWorld (Value.int .i64) w g0 l.base n (sortI d).toArray os := hw
      subst hw2
      refine ⟨_, he, ⟨⟨rfl, Nat.le_add_right _ _⟩, rfl, rfl, sortWorld_size, fun b hlt hno => sortWorld_other hlt ?_⟩, ⟨by simpa [hsl] using hbig, ?_⟩, .tup rfl fun i hi => absurd hi (by simp)⟩
      · rintro rfl
        exact hno (blks_mu1.2 ⟨n0, hb⟩)
      · rw [hb]
        refine ⟨fun _ => ⟨_, el, sortWorld_at hheap, by simpa [Go.Sort.putCells] using hcs, by simpa [hsl] using hlen', fun j hj => ?_, fun i hi => ?_⟩, fun h => by cases h⟩
        · rw [putCells_getD (by omega)]
          split
          · rfl
          · exact hone j hj
        · have hi' : i < (sortI d).length := by simpa using hi
          have hlt : l.base + i * 1 < c.size := by rw [hcs]; omega
          have e3 : (List.map iv (sortI d)).getD i .junk = iv ((sortI d)[i]!) := by
            rw [List.getD_eq_getElem?_getD, List.getElem?_map, List.getElem?_eq_getElem hi', getElem!_pos (sortI d) i hi']
            rfl
          rw [e3]
          refine ⟨rfl, ?_⟩
          show Rep _ _ Mu.none _ ((Go.Sort.putCells (Value.int .i64) l.base (sortI d).toArray c).getD (l.base + i * 1) undef)
          rw [putCells_getD hlt, if_pos (by simp; omega), show l.base + i * 1 - l.base = i by omega]
          have e4 : (sortI d).toArray[i]! = (sortI d)[i]! := by simp
          rw [e4]
          exact .raw rfl
end
end Go.Proofs.YtgfgkfkplidncaaGreat
end

section
/- The library's sort of words at this program: where its functions and types stand (written by the kit's tool lay-plain), and its contract. -/
namespace Go.Proofs.YtgfgkfkplidncaaGreat
open Go.Abs Go Go.Shelf
def lsortI_ren : Go.Shelf.Ren := ⟨fun | 189 => 83 | 125 => 105 | 257 => 104 | 128 => 121 | 129 => 122 | 294 => 112 | 295 => 113 | 296 => 114 | 297 => 115 | 298 => 116 | 299 => 117 | 216 => 118 | 300 => 119 | 301 => 120 | 328 => 143 | 329 => 144 | 330 => 145 | 331 => 146 | 332 => 147 | 215 => 133 | 343 => 154 | n => n, fun | 28 => 23 | 3 => 3 | 46 => 113 | 0 => 0 | 51 => 130 | 53 => 132 | 4 => 4 | 183 => 123 | 182 => 122 | 131 => 127 | 5 => 5 | 9 => 9 | 218 => 148 | 222 => 152 | 228 => 158 | 229 => 105 | n => n, fun | n => n⟩
theorem lsortI : Go.Proofs.Lays.n189 Tryz.prog lsortI_ren := {
  mixed := by kernel_rfl
  f125 := Tryz.func105.trans (congrArg some (by kernel_rfl))
  f128 := Tryz.func121.trans (congrArg some (by kernel_rfl))
  f129 := Tryz.func122.trans (congrArg some (by kernel_rfl))
  f189 := Tryz.func83.trans (congrArg some (by kernel_rfl))
  f215 := Tryz.func133.trans (congrArg some (by kernel_rfl))
  f216 := Tryz.func118.trans (congrArg some (by kernel_rfl))
  f257 := Tryz.func104.trans (congrArg some (by kernel_rfl))
  f294 := Tryz.func112.trans (congrArg some (by kernel_rfl))
  f295 := Tryz.func113.trans (congrArg some (by kernel_rfl))
  f296 := Tryz.func114.trans (congrArg some (by kernel_rfl))
  f297 := Tryz.func115.trans (congrArg some (by kernel_rfl))
  f298 := Tryz.func116.trans (congrArg some (by kernel_rfl))
  f299 := Tryz.func117.trans (congrArg some (by kernel_rfl))
  f300 := Tryz.func119.trans (congrArg some (by kernel_rfl))
  f301 := Tryz.func120.trans (congrArg some (by kernel_rfl))
  f328 := Tryz.func143.trans (congrArg some (by kernel_rfl))
  f329 := Tryz.func144.trans (congrArg some (by kernel_rfl))
  f330 := Tryz.func145.trans (congrArg some (by kernel_rfl))
  f331 := Tryz.func146.trans (congrArg some (by kernel_rfl))
  f332 := Tryz.func147.trans (congrArg some (by kernel_rfl))
  f343 := Tryz.func154.trans (congrArg some (by kernel_rfl))
  t0 := Tryz.underlying0
  a0 := Tryz.isAgg0
  z0 := Tryz.sizeOf0
  v0 := Tryz.zeroValue0
  t3 := Tryz.underlying3
  a3 := Tryz.isAgg3
  z3 := Tryz.sizeOf3
  v3 := Tryz.zeroValue3
  t4 := Tryz.underlying4
  a4 := Tryz.isAgg4
  z4 := Tryz.sizeOf4
  v4 := Tryz.zeroValue4
  t5 := Tryz.underlying5
  a5 := Tryz.isAgg5
  z5 := Tryz.sizeOf5
  v5 := Tryz.zeroValue5
  t9 := Tryz.underlying9
  a9 := Tryz.isAgg9
  z9 := Tryz.sizeOf9
  v9 := Tryz.zeroValue9
  t28 := Tryz.underlying23
  a28 := Tryz.isAgg23
  z28 := Tryz.sizeOf23
  v28 := Tryz.zeroValue23
  t46 := Tryz.underlying113
  a46 := Tryz.isAgg113
  z46 := Tryz.sizeOf113
  v46 := Tryz.zeroValue113
  t51 := Tryz.underlying130
  a51 := Tryz.isAgg130
  z51 := Tryz.sizeOf130
  v51 := Tryz.zeroValue130
  t53 := Tryz.underlying132
  a53 := Tryz.isAgg132
  z53 := Tryz.sizeOf132
  v53 := Tryz.zeroValue132
  t131 := Tryz.underlying127
  a131 := Tryz.isAgg127
  z131 := Tryz.sizeOf127
  v131 := Tryz.zeroValue127
  t182 := Tryz.underlying122
  a182 := Tryz.isAgg122
  z182 := Tryz.sizeOf122
  v182 := Tryz.zeroValue122
  t183 := Tryz.underlying123
  a183 := Tryz.isAgg123
  z183 := Tryz.sizeOf123
  v183 := Tryz.zeroValue123
  t218 := Tryz.underlying148
  a218 := Tryz.isAgg148
  z218 := Tryz.sizeOf148
  v218 := Tryz.zeroValue148
  t222 := Tryz.underlying152
  a222 := Tryz.isAgg152
  z222 := Tryz.sizeOf152
  v222 := Tryz.zeroValue152
  t228 := Tryz.underlying158
  a228 := Tryz.isAgg158
  z228 := Tryz.sizeOf158
  v228 := Tryz.zeroValue158
  t229 := Tryz.underlying105
  a229 := Tryz.isAgg105
  z229 := Tryz.sizeOf105
  v229 := Tryz.zeroValue105 }
end Go.Proofs.YtgfgkfkplidncaaGreat
end

section
/- The library's sort of names (structs of two numbers), over a lent box. -/
namespace Go.Proofs.YtgfgkfkplidncaaGreat
open Go.Abs Go

@[simp] def pairV (x : Int × Int) : AV := .agg [iv x.1, iv x.2]
/-- How two names compare. -/
def cmpN (a b : Int × Int) : Int := if cmpI a.1 b.1 ≠ 0 then cmpI a.1 b.1 else cmpI a.2 b.2
section
open Go.Sort Go.Shelf
variable {P : Program} {ρ : Ren}
def encN (x : Int × Int) : List Value := [.int .i64 x.1, .int .i64 x.2]
theorem cmpN_lt (a b : Int × Int) : ltOf cmpN a b = !leNB b a := by
  unfold ltOf cmpN cmpI leNB
  rw [Bool.eq_iff_iff]
  simp only [decide_eq_true_eq, Bool.not_eq_true', Bool.or_eq_false_iff, Bool.and_eq_false_iff, decide_eq_false_iff_not]
  by_cases h1 : a.1 < b.1
  · simp [h1] <;> omega
  · by_cases h2 : b.1 < a.1
    · simp [h1, h2]
    · by_cases h3 : a.2 < b.2
      · simp [h1, h2, h3] <;> omega
      · by_cases h4 : b.2 < a.2
        · simp [h1, h2, h3, h4] <;> omega
        · simp [h1, h2, h3, h4] <;> omega
theorem cmpN_swo : SWO (ltOf cmpN) := by
  refine ⟨fun x => ?_, fun x y z h1 h2 => ?_, fun x y z h1 h2 => ?_⟩
  · rw [cmpN_lt]; simp [leNB]
  · rw [cmpN_lt] at *
    simp only [leNB, Bool.not_eq_true', Bool.or_eq_false_iff, Bool.and_eq_false_iff, decide_eq_false_iff_not] at *
    omega
  · rw [cmpN_lt] at *
    simp only [leNB, Bool.not_eq_false', Bool.or_eq_true, Bool.and_eq_true, decide_eq_true_eq] at *
    omega
theorem flatN_get (d : Array (Int × Int)) (i : Nat) (h : i < d.size) : (flatK encN 2 d)[2 * i]! = .int .i64 (d[i]!).1 ∧ (flatK encN 2 d)[2 * i + 1]! = .int .i64 (d[i]!).2 := by
  refine ⟨?_, ?_⟩
  · rw [get_flatK _ _ _ _ (by omega), show 2 * i / 2 = i by omega, show 2 * i % 2 = 0 by omega]; rfl
  · rw [get_flatK _ _ _ _ (by omega), show (2 * i + 1) / 2 = i by omega, show (2 * i + 1) % 2 = 1 by omega]; rfl
theorem rep_pair {w : World} {Y : Nat → Prop} {μ : Mu} {x : Int × Int} {c : Array Value} {o : Nat} : Rep w Y μ (pairV x) (elemVal (pairV x) 2 c o) → c.getD o undef = .int .i64 x.1 ∧ c.getD (o + 1) undef = .int .i64 x.2 := by
  intro h
  simp only [pairV, elemVal] at h
  generalize hv : Value.agg (c.extract o (o + 2)) = v at h
  cases h with
  | agg hs h1 h2 =>
    cases hv
    have a0 := h2 0 (by simp)
    have a1 := h2 1 (by simp)
    have b0 := a0.one.1
    have b1 := a1.one.1
    have hsz : (c.extract o (o + 2)).size = 2 := by simpa using hs
    rw [Array.size_extract] at hsz
    have e0 : (c.extract o (o + 2)).getD 0 undef = c.getD o undef := by
      simp [Array.getD, Array.size_extract, show 0 < min (o + 2) c.size - o by omega, show o < c.size by omega]
    have e1 : (c.extract o (o + 2)).getD 1 undef = c.getD (o + 1) undef := by
      simp [Array.getD, Array.size_extract, show 1 < min (o + 2) c.size - o by omega, show o + 1 < c.size by omega]
    rw [e0] at b0
    rw [e1] at b1
    exact ⟨b0, b1⟩
theorem pair_rep {w : World} {Y : Nat → Prop} {μ : Mu} {x : Int × Int} {c : Array Value} {o : Nat} (ho : o + 2 ≤ c.size) (h0 : c.getD o undef = .int .i64 x.1) (h1 : c.getD (o + 1) undef = .int .i64 x.2) : Rep w Y μ (pairV x) (elemVal (pairV x) 2 c o) := by
  have e0 : (c.extract o (o + 2)).getD 0 undef = c.getD o undef := by
    simp [Array.getD, Array.size_extract, show 0 < min (o + 2) c.size - o by omega, show o < c.size by omega]
  have e1 : (c.extract o (o + 2)).getD 1 undef = c.getD (o + 1) undef := by
    simp [Array.getD, Array.size_extract, show 1 < min (o + 2) c.size - o by omega, show o + 1 < c.size by omega]
  refine .agg (by simp; omega) (fun i hi => ?_) (fun i hi => ?_)
  · match i, hi with
    | 0, _ => rw [e0, h0]; rfl
    | 1, _ => rw [e1, h1]; rfl
  · match i, hi with
    | 0, _ => rw [e0, h0]; exact .raw rfl
    | 1, _ => rw [e1, h1]; exact .raw rfl
theorem callL_sortN (L : SlLaysF0.n6 P ρ) (aE : ∀ w, (isAgg (ρ.t 24)).run P w = .ok true w) (zE : ∀ w, (Go.sizeOf (ρ.t 24)).run P w = .ok 2 w) {g : FuncId} (hg : ∀ a b : Int × Int, CallP P g [pairV a, pairV b] (iv (cmpN a b))) (d : List (Int × Int)) :
    CallL P (ρ.f 6) [] 2 (d.map pairV) [.fn g [] []] (.val (.tup [])) ((sortN d).map pairV) := by
  have hsl : (sortN d).length = d.length := (sortN_perm d).length_eq
  refine ⟨?_, fun w X l vs hv hsz hX hXl hh hlen hargs => ?_⟩
  · obtain ⟨nm, hn, hf⟩ := L.f6
    exact ⟨_, hf, by simpa using hn, by simp [SlBodyF.n6]⟩
  obtain ⟨v0, v1, rfl⟩ : ∃ v0 v1, vs = #[v0, v1] := by
    cases vs with
    | mk l =>
      match l, hlen with
      | [a, b], _ => exact ⟨a, b, rfl⟩
  have h0 : Rep w (Yof X (mu1 l)) (mu1 l) (.sl lid 0 0 (d.map pairV).length) v0 := hargs 0 (by simp)
  have h1 : Rep w (Yof X (mu1 l)) (mu1 l) (.fn g [] []) v1 := hargs 1 (by simp)
  generalize hn : (d.map pairV).length = n at h0
  simp only [List.length_map] at hn
  cases h1 with
  | @fn _ _ _ _ fs cs hs ht _ _ =>
  obtain rfl : fs = #[] := Array.eq_empty_of_size_eq_zero hs
  obtain rfl : cs = #[] := Array.eq_empty_of_size_eq_zero ht
  cases h0 with
  | slOld hm hv' =>
    simp only [mu1, if_true, Option.some.injEq] at hm
    subst hm
    omega
  | slNil hm hv' =>
    obtain rfl : d = [] := List.eq_nil_of_length_eq_zero hn
    refine (AnyF.slices_SortFunc_none (P := P) (ρ := ρ) { L with } _ 0 _ w).mono fun e w' ⟨he, hw⟩ => ?_
    subst hw
    exact ⟨_, he, Ext.refl _ _, by simpa [sortN] using hh, .tup rfl fun i hi => absurd hi (by simp)⟩
  | @sl _ _ _ _ _ cap loc g0 n0 hm hv' hb hc hfit hz =>
    simp only [mu1, if_true, Option.some.injEq] at hm
    subst hm
    subst hn
    obtain ⟨hbig, hh⟩ := hh
    rw [hb] at hh
    obtain ⟨c, el, hheap, hcs, hlen', hone, hrep⟩ := hh.1 (by simp)
    rw [hsz] at hfit
    simp only [Nat.zero_mul, Nat.add_zero, Nat.zero_add, List.length_map, hsz] at hfit hlen' hbig ⊢
    let Y : Nat → Prop := Yof X (mu1 l)
    have hY0 : Y g0 := .inr (blks_mu1.2 ⟨n0, hb⟩)
    have hYlt : ∀ b, Y b → b < w.heap.size := by
      rintro b (hx | hx)
      · exact hX b hx
      · obtain ⟨n, hn⟩ := blks_mu1.1 hx
        rw [hb] at hn
        simp only [Option.some.injEq, Prod.mk.injEq] at hn
        rw [← hn.1]
        exact lt_of_heap hheap
    have hcell : ∀ i, i < d.length → c.getD (l.base + i * 2) undef = .int .i64 (Go.Abs.el d i).1 ∧ c.getD (l.base + i * 2 + 1) undef = .int .i64 (Go.Abs.el d i).2 := by
      intro i hi
      have := (hrep i (by simpa using hi)).2
      have e : (List.map pairV d).getD i .junk = pairV (Go.Abs.el d i) := nth_map pairV d i hi
      rw [e] at this
      exact rep_pair this
    let arr : Array (Int × Int) := d.toArray
    have harr : arr.size = d.length := by simp [arr]
    have hget : ∀ i, i < d.length → arr[i]! = Go.Abs.el d i := by
      intro i hi
      rw [getElem!_pos arr i (by rw [harr]; exact hi), el_eq d i hi]
      simp [arr]
    have hkey := AnyQ.slices_SortFunc L 2 aE zE encN (fun _ => rfl) (fun x v hv => by simp only [encN, List.mem_cons, List.not_mem_nil, or_false] at hv; rcases hv with rfl | rfl <;> rfl) cmpN cmpN_swo g #[] g0 l.base cap arr w ?_ ?_ ?_ (lt_of_heap hheap) ?_
    · rw [harr] at hkey
      refine hkey.mono fun e w' ⟨he, d', n, os, hp, hs, hw⟩ => ?_
      obtain ⟨hp1, _, hp2⟩ := hp
      rw [harr] at hp1
      have hd' : d'.toList = sortN d := by
        symm
        refine sortN_eq ?_ ?_
        · have e1 : d'.extract 0 d.length = d' := by rw [← hp1]; exact Array.extract_size
          have e2 : arr.extract 0 d.length = arr := by rw [← harr]; exact Array.extract_size
          rw [e1, e2] at hp2
          exact hp2.symm
        · rw [List.pairwise_iff_getElem]
          intro i j hi hj hij
          have := hs i j (Nat.zero_le _) hij (by simpa [hp1] using hj)
          rw [cmpN_lt, getElem!_pos d' j (by simpa using hj), getElem!_pos d' i (by simpa using hi)] at this
          simpa using this
      have hw2 : w' = Go.Proofs.sortWorld id w g0 l.base n (flatK encN 2 d') os := hw
      subst hw2
      refine ⟨_, he, ⟨⟨rfl, ?_⟩, rfl, rfl, sortWorld_size, fun b hlt hno => sortWorld_other hlt ?_⟩, ⟨by simpa [hsl] using hbig, ?_⟩, .tup rfl fun i hi => absurd hi (by simp)⟩
      · exact Nat.le_add_right _ _
      · rintro rfl
        exact hno (blks_mu1.2 ⟨n0, hb⟩)
      · rw [hb]
        refine ⟨fun _ => ⟨_, el, sortWorld_at hheap, by simpa [Go.Sort.putCells] using hcs, by simpa [hsl] using hlen', fun j hj => ?_, fun i hi => ?_⟩, fun h => by cases h⟩
        · rw [putCells_getD (by omega)]
          split
          · rename_i hr
            rw [size_flatK, hp1] at hr
            have hq : j - l.base = 2 * ((j - l.base) / 2) ∨ j - l.base = 2 * ((j - l.base) / 2) + 1 := by omega
            have hlt : (j - l.base) / 2 < d'.size := by omega
            obtain ⟨q1, q2⟩ := flatN_get d' _ hlt
            rcases hq with e | e
            · rw [e, q1]; rfl
            · rw [e, q2]; rfl
          · exact hone j hj
        · have hi' : i < d.length := by simpa [hsl] using hi
          have hi2 : i < d'.size := by omega
          have e3 : (List.map pairV (sortN d)).getD i .junk = pairV (d'[i]!) := by
            rw [show (List.map pairV (sortN d)).getD i .junk = pairV (Go.Abs.el (sortN d) i) from nth_map pairV _ i (by omega), ← hd', el_eq _ _ (by simpa using hi2), getElem!_pos d' i hi2]
            simp
          rw [e3]
          have hlt : l.base + i * 2 + 1 < c.size := by omega
          have hlt0 : l.base + i * 2 < c.size := by omega
          refine ⟨rfl, pair_rep (by simpa [Go.Sort.putCells] using (by omega : l.base + i * 2 + 2 ≤ c.size)) ?_ ?_⟩
          · rw [putCells_getD hlt0, if_pos ⟨by omega, by rw [size_flatK]; omega⟩, show l.base + i * 2 - l.base = 2 * i by omega]
            exact (flatN_get d' i hi2).1
          · rw [putCells_getD hlt, if_pos ⟨by omega, by rw [size_flatK]; omega⟩, show l.base + i * 2 + 1 - l.base = 2 * i + 1 by omega]
            exact (flatN_get d' i hi2).2
    · intro args w1
      obtain ⟨fn, hf, hname, hbody⟩ := (hg (0, 0) (0, 0)).1
      cases hb2 : fn.body with
      | none => exact absurd hb2 hbody
      | some code => exact enters_of hf (by simpa using hname) hb2 args w1
    · intro m os dk hdk x y
      refine ((hg x y).2 _ Y _ (fun b hb' => Nat.lt_of_lt_of_le (hYlt b hb') (sortWorld_size (enc := id) (dk := flatK encN 2 dk))) rfl fun i hi => ?_).mono ?_
      · match i, hi with
        | 0, _ => exact .agg rfl (fun i hi => by match i, hi with | 0, _ => rfl | 1, _ => rfl) (fun i hi => by match i, hi with | 0, _ => exact .raw rfl | 1, _ => exact .raw rfl)
        | 1, _ => exact .agg rfl (fun i hi => by match i, hi with | 0, _ => rfl | 1, _ => rfl) (fun i hi => by match i, hi with | 0, _ => exact .raw rfl | 1, _ => exact .raw rfl)
      · rintro e w' ⟨v, he, hgw, hr⟩
        obtain ⟨rfl, _⟩ := hr.one
        exact ⟨he, _, _, grows_eq hgw⟩
    · intro j hj
      rw [size_flatK, harr] at hj
      have hlt : l.base + j < c.size := by omega
      have hq : j = 2 * (j / 2) ∨ j = 2 * (j / 2) + 1 := by omega
      have hlt2 : j / 2 < arr.size := by omega
      obtain ⟨q1, q2⟩ := flatN_get arr _ hlt2
      obtain ⟨c1, c2⟩ := hcell (j / 2) (by omega)
      have hcv : c.getD (l.base + j) undef = (flatK encN 2 arr)[j]! := by
        rcases hq with e | e
        · rw [e, q1, hget _ (by omega), ← e, show l.base + j = l.base + j / 2 * 2 by omega]; exact c1
        · rw [e, q2, hget _ (by omega), show l.base + (2 * (j / 2) + 1) = l.base + j / 2 * 2 + 1 by omega]; exact c2
      refine ⟨?_, ?_⟩
      · unfold World.cell?
        simp only [hheap]
        rw [← hcv]
        simp [Array.getD, hlt]
      · unfold World.frozen?
        simp [hheap]
    · rw [harr]
      simp only [big] at hbig
      omega
end
end Go.Proofs.YtgfgkfkplidncaaGreat
end

section
/- The library's sort of names at this program: where its functions and types stand (written by the kit's tool lay-plain), and its contract. -/
namespace Go.Proofs.YtgfgkfkplidncaaGreat
open Go.Abs Go Go.Shelf
def lsortN_ren : Go.Shelf.Ren := ⟨fun | 6 => 87 | 15 => 105 | 14 => 107 | 28 => 121 | 29 => 122 | 20 => 125 | 21 => 126 | 22 => 127 | 23 => 128 | 24 => 129 | 25 => 130 | 26 => 131 | 27 => 132 | 46 => 148 | 47 => 144 | 48 => 145 | 49 => 149 | 50 => 150 | 57 => 155 | n => n, fun | 22 => 94 | 24 => 95 | 25 => 97 | 3 => 3 | 39 => 113 | 0 => 0 | 53 => 130 | 55 => 132 | 4 => 4 | 46 => 123 | 45 => 122 | 50 => 127 | 5 => 5 | 9 => 9 | 66 => 148 | 70 => 152 | 76 => 158 | 77 => 105 | n => n, fun | n => n⟩
theorem lsortN : Go.Proofs.SlLaysF0.n6 Tryz.prog lsortN_ren := {
  mixed := by kernel_rfl
  f6 := ⟨Tryz.f87.name, by decide, Tryz.func87.trans (congrArg some (by kernel_rfl))⟩
  f14 := ⟨Tryz.f107.name, by decide, Tryz.func107.trans (congrArg some (by kernel_rfl))⟩
  f15 := Tryz.func105.trans (congrArg some (by kernel_rfl))
  f20 := ⟨Tryz.f125.name, by decide, Tryz.func125.trans (congrArg some (by kernel_rfl))⟩
  f21 := ⟨Tryz.f126.name, by decide, Tryz.func126.trans (congrArg some (by kernel_rfl))⟩
  f22 := ⟨Tryz.f127.name, by decide, Tryz.func127.trans (congrArg some (by kernel_rfl))⟩
  f23 := ⟨Tryz.f128.name, by decide, Tryz.func128.trans (congrArg some (by kernel_rfl))⟩
  f24 := ⟨Tryz.f129.name, by decide, Tryz.func129.trans (congrArg some (by kernel_rfl))⟩
  f25 := ⟨Tryz.f130.name, by decide, Tryz.func130.trans (congrArg some (by kernel_rfl))⟩
  f26 := ⟨Tryz.f131.name, by decide, Tryz.func131.trans (congrArg some (by kernel_rfl))⟩
  f27 := ⟨Tryz.f132.name, by decide, Tryz.func132.trans (congrArg some (by kernel_rfl))⟩
  f28 := Tryz.func121.trans (congrArg some (by kernel_rfl))
  f29 := Tryz.func122.trans (congrArg some (by kernel_rfl))
  f46 := ⟨Tryz.f148.name, by decide, Tryz.func148.trans (congrArg some (by kernel_rfl))⟩
  f47 := Tryz.func144.trans (congrArg some (by kernel_rfl))
  f48 := Tryz.func145.trans (congrArg some (by kernel_rfl))
  f49 := ⟨Tryz.f149.name, by decide, Tryz.func149.trans (congrArg some (by kernel_rfl))⟩
  f50 := ⟨Tryz.f150.name, by decide, Tryz.func150.trans (congrArg some (by kernel_rfl))⟩
  f57 := ⟨Tryz.f155.name, by decide, Tryz.func155.trans (congrArg some (by kernel_rfl))⟩
  t0 := Tryz.underlying0
  a0 := Tryz.isAgg0
  z0 := Tryz.sizeOf0
  v0 := Tryz.zeroValue0
  t3 := Tryz.underlying3
  a3 := Tryz.isAgg3
  z3 := Tryz.sizeOf3
  v3 := Tryz.zeroValue3
  t4 := Tryz.underlying4
  a4 := Tryz.isAgg4
  z4 := Tryz.sizeOf4
  v4 := Tryz.zeroValue4
  t5 := Tryz.underlying5
  a5 := Tryz.isAgg5
  z5 := Tryz.sizeOf5
  v5 := Tryz.zeroValue5
  t9 := Tryz.underlying9
  a9 := Tryz.isAgg9
  z9 := Tryz.sizeOf9
  v9 := Tryz.zeroValue9
  t22 := Tryz.underlying94
  a22 := Tryz.isAgg94
  z22 := Tryz.sizeOf94
  v22 := Tryz.zeroValue94
  t25 := Tryz.underlying97
  a25 := Tryz.isAgg97
  z25 := Tryz.sizeOf97
  v25 := Tryz.zeroValue97
  t39 := Tryz.underlying113
  a39 := Tryz.isAgg113
  z39 := Tryz.sizeOf113
  v39 := Tryz.zeroValue113
  t45 := Tryz.underlying122
  a45 := Tryz.isAgg122
  z45 := Tryz.sizeOf122
  v45 := Tryz.zeroValue122
  t46 := Tryz.underlying123
  a46 := Tryz.isAgg123
  z46 := Tryz.sizeOf123
  v46 := Tryz.zeroValue123
  t50 := Tryz.underlying127
  a50 := Tryz.isAgg127
  z50 := Tryz.sizeOf127
  v50 := Tryz.zeroValue127
  t53 := Tryz.underlying130
  a53 := Tryz.isAgg130
  z53 := Tryz.sizeOf130
  v53 := Tryz.zeroValue130
  t55 := Tryz.underlying132
  a55 := Tryz.isAgg132
  z55 := Tryz.sizeOf132
  v55 := Tryz.zeroValue132
  t66 := Tryz.underlying148
  a66 := Tryz.isAgg148
  z66 := Tryz.sizeOf148
  v66 := Tryz.zeroValue148
  t70 := Tryz.underlying152
  a70 := Tryz.isAgg152
  z70 := Tryz.sizeOf152
  v70 := Tryz.zeroValue152
  t76 := Tryz.underlying158
  a76 := Tryz.isAgg158
  z76 := Tryz.sizeOf158
  v76 := Tryz.zeroValue158
  t77 := Tryz.underlying105
  a77 := Tryz.isAgg105
  z77 := Tryz.sizeOf105
  v77 := Tryz.zeroValue105 }
end Go.Proofs.YtgfgkfkplidncaaGreat
end

section
/- Contracts: the library's sorts at this program. -/
namespace Go.Proofs.YtgfgkfkplidncaaGreat
open Go.Abs Go
set_option maxRecDepth 20000
set_option maxHeartbeats 2000000
attribute [local irreducible] PreK CondK CallK CallG CallX LoopK
attribute [local simp] avsEq avEq akind teq vkind vEq

theorem sortI_L (l : List Int) : CallL Tryz.prog 83 [] 1 (l.map iv) [] (.val (.tup [])) ((sortI l).map iv) := callL_sortI lsortI l
theorem sortW_L (l : List (List Int)) : CallL Tryz.prog 92 [] 1 (l.map ints) [.fn 93 [] []] (.val (.tup [])) ((sortW l).map ints) := callL_sort lsort Compare_c l
theorem or_c (a b : Int) : CallP Tryz.prog 108 [ints [a, b]] (iv (if a ≠ 0 then a else b)) := by
  refine C108 (by simp) ?_
  simp [A108]
  refine LoopK.by (ι := Nat) (fun i => ⟨[(8, iv i), (7, iv 2), (6, ints [a, b]), (3, iv 0)], []⟩) (fun i => 2 - i) (fun i => i ≤ 2 ∧ (1 ≤ i → a = 0) ∧ (2 ≤ i → b = 0)) 0 ⟨by omega, by omega, by omega⟩ (by simp) ?_
  intro i Q' ⟨hi, h1, h2⟩ hq he hr
  match i, hi with
  | 0, _ =>
    try simp 
    refine CondK.tt ?_
    try simp 
    repeat (refine PreK.intro (by first | omega | (intros; first | omega | (refine ⟨by omega, ?_⟩; simp_all; done) | (simp_all; done) | (simp_all; omega))) fun _ => ?_; (try simp ))
    refine CondK.intro (fun h3 => ?_) (fun h3 => ?_)
    · simp at h3
      try simp 
      apply hr
      simp [h3]
    · simp at h3
      repeat (refine PreK.intro (by first | omega | (intros; first | omega | (refine ⟨by omega, ?_⟩; simp_all; done) | (simp_all; done) | (simp_all; omega))) fun _ => ?_; (try simp ))
      exact hq 1 _ ⟨by omega, fun _ => h3, by omega⟩ (by omega) (by simp)
  | 1, _ =>
    have h1 := h1 (by omega)
    subst h1
    try simp 
    refine CondK.tt ?_
    try simp 
    repeat (refine PreK.intro (by first | omega | (intros; first | omega | (refine ⟨by omega, ?_⟩; simp_all; done) | (simp_all; done) | (simp_all; omega))) fun _ => ?_; (try simp ))
    refine CondK.intro (fun h3 => ?_) (fun h3 => ?_)
    · simp at h3
      try simp 
      apply hr
      simp [h3]
    · simp at h3
      repeat (refine PreK.intro (by first | omega | (intros; first | omega | (refine ⟨by omega, ?_⟩; simp_all; done) | (simp_all; done) | (simp_all; omega))) fun _ => ?_; (try simp ))
      exact hq 2 _ ⟨by omega, fun _ => rfl, fun _ => h3⟩ (by omega) (by simp)
  | 2, _ =>
    have h1 := h1 (by omega)
    have h2 := h2 (by omega)
    subst h1 h2
    try simp 
    refine CondK.ff ?_
    try simp 
    try simp 
    apply he
    try simp 
theorem labelCompare_c (a b : Int × Int) : CallP Tryz.prog 88 [pairV a, pairV b] (iv (cmpN a b)) := by
  refine C88 (by simp) ?_
  simp [A88]
  refine CallK.intro (by simpa using cmpInt_c a.1 b.1) (by simp) (by simp) ?_
  try simp 
  repeat (refine PreK.intro (by first | omega | (intros; first | omega | (refine ⟨by omega, ?_⟩; simp_all; done) | (simp_all; done) | (simp_all; omega))) fun _ => ?_; (try simp ))
  refine CallK.intro (by simpa using cmpInt_c a.2 b.2) (by simp) (by simp) ?_
  try simp 
  repeat (refine PreK.intro (by first | omega | (intros; first | omega | (refine ⟨by omega, ?_⟩; simp_all; done) | (simp_all; done) | (simp_all; omega))) fun _ => ?_; (try simp ))
  refine CallK.intro (by simpa using or_c (cmpI a.1 b.1) (cmpI a.2 b.2)) (by simp) (by simp) ?_
  try simp 
  repeat (refine PreK.intro (by first | omega | (intros; first | omega | (refine ⟨by omega, ?_⟩; simp_all; done) | (simp_all; done) | (simp_all; omega))) fun _ => ?_; (try simp ))
  simp [cmpN]
theorem sortN_L (l : List (Int × Int)) : CallL Tryz.prog 87 [] 2 (l.map pairV) [.fn 88 [] []] (.val (.tup [])) ((sortN l).map pairV) :=
  callL_sortN lsortN Tryz.isAgg95 Tryz.sizeOf95 labelCompare_c l
end Go.Proofs.YtgfgkfkplidncaaGreat
end

section
/- Contracts: orders; the sounds of a table, their rows; which tables are right. -/
namespace Go.Proofs.YtgfgkfkplidncaaGreat
open Go.Abs Go
set_option maxRecDepth 20000
set_option maxHeartbeats 2000000
attribute [local irreducible] PreK CondK CallK CallG CallX LoopK
attribute [local simp] avsEq avEq akind teq vkind vEq

theorem flat_ivs (l : List Int) : ∀ i, i < (l.map iv).length → flat ((l.map iv).getD i .junk) = true := by
  intro i hi
  rw [show (l.map iv).getD i .junk = iv (el l i) from nth_map iv l i (by simpa using hi)]
  rfl
theorem isOrder_c (l : List Int) (n : Int) (hl : l.length ≤ 1000) : CallP Tryz.prog 55 [ints l, iv n] (bv (isOrdB l n)) := by
  refine C55 (by simp) ?_
  generalize hR : isOrdB l n = R
  unfold isOrdB at hR
  simp [A55]
  refine CondK.intro (fun h1 => ?_) (fun h1 => ?_)
  · simp at h1
    simp only [h1, decide_false, Bool.false_and] at hR
    try simp 
    first | exact hR | exact hR.symm
  · simp at h1
    subst h1
    simp only [decide_true, Bool.true_and, Int.toNat_natCast] at hR
    try simp 
    refine LoopK.by (fun i : Nat => ⟨[(11, iv i), (10, iv l.length), (0, ints l)], []⟩) (fun i => l.length - i) (fun i => i ≤ l.length ∧ ((idsN l.length).drop i).all (fun i => l.contains i) = R) 0 (by simpa using hR) (by simp) ?_
    intro i Q' ⟨hi, hc⟩ hq he hr
    try simp 
    refine CondK.intro (fun h2 => ?_) (fun h2 => ?_)
    · simp at h2
      have hcn := contains_c l i (sbig hl)
      rw [any_contains] at hcn
      rw [drop_cons _ i (by rw [ids_len]; exact h2), List.all_cons, el_ids h2] at hc
      generalize l.contains (i : Int) = b at hcn hc
      try simp 
      repeat' (first
        | (refine CallX.pure (hcn) (by simp) (by simp) ?_; try simp )
        | (refine CallK.intro (hcn) (by simp) (by simp) ?_; try simp )
        | (refine CallG.intro (fun _ => hcn) (by simp) (by simp) ?_; try simp )
        | ((with_reducible refine PreK.intro ?_ ?_); (next => (first | omega | (intros; first | omega | (refine ⟨by omega, ?_⟩; repeat (first | assumption | constructor)) | assumption))); intro _; try simp )
        | fail)
      cases b with
      | false =>
        refine CondK.tt ?_
        try simp 
        apply hr
        simpa using hc
      | true =>
        refine CondK.ff ?_
        try simp 
        repeat (refine PreK.intro (by first | omega | (intros; first | omega | (refine ⟨by omega, ?_⟩; simp_all; done) | (simp_all; done) | (simp_all; omega))) fun _ => ?_; (try simp ))
        exact hq (i + 1) _ ⟨by omega, by simpa using hc⟩ (by omega) (by simp)
    · simp at h2
      rw [List.drop_eq_nil_of_le (by rw [ids_len]; omega)] at hc
      simp only [List.all_nil] at hc
      try simp 
      apply he
      try simp 
      first | exact hc | exact hc.symm
theorem risOrder_c (l : List Int) (n : Int) (hl : l.length ≤ 1000) : CallP Tryz.prog 60 [ints l, iv n] (bv (isOrdB l n)) := by
  refine C60 (by simp) ?_
  generalize hR : isOrdB l n = R
  unfold isOrdB at hR
  simp [A60]
  refine CondK.intro (fun h1 => ?_) (fun h1 => ?_)
  · simp at h1
    simp only [h1, decide_false, Bool.false_and] at hR
    try simp 
    first | exact hR | exact hR.symm
  · simp at h1
    subst h1
    simp only [decide_true, Bool.true_and, Int.toNat_natCast] at hR
    try simp 
    refine LoopK.by (fun i : Nat => ⟨[(5, iv i), (1, iv l.length), (0, ints l)], []⟩) (fun i => l.length - i) (fun i => i ≤ l.length ∧ ((idsN l.length).drop i).all (fun i => l.contains i) = R) 0 (by simpa using hR) (by simp) ?_
    intro i Q' ⟨hi, hc⟩ hq he hr
    try simp 
    refine CondK.intro (fun h2 => ?_) (fun h2 => ?_)
    · simp at h2
      have hcn := has1_c l i (sbig hl)
      rw [drop_cons _ i (by rw [ids_len]; exact h2), List.all_cons, el_ids h2] at hc
      generalize l.contains (i : Int) = b at hcn hc
      try simp 
      repeat' (first
        | (refine CallX.pure (hcn) (by simp) (by simp) ?_; try simp )
        | (refine CallK.intro (hcn) (by simp) (by simp) ?_; try simp )
        | (refine CallG.intro (fun _ => hcn) (by simp) (by simp) ?_; try simp )
        | ((with_reducible refine PreK.intro ?_ ?_); (next => (first | omega | (intros; first | omega | (refine ⟨by omega, ?_⟩; repeat (first | assumption | constructor)) | assumption))); intro _; try simp )
        | fail)
      cases b with
      | false =>
        refine CondK.tt ?_
        try simp 
        apply hr
        simpa using hc
      | true =>
        refine CondK.ff ?_
        try simp 
        repeat (refine PreK.intro (by first | omega | (intros; first | omega | (refine ⟨by omega, ?_⟩; simp_all; done) | (simp_all; done) | (simp_all; omega))) fun _ => ?_; (try simp ))
        exact hq (i + 1) _ ⟨by omega, by simpa using hc⟩ (by omega) (by simp)
    · simp at h2
      rw [List.drop_eq_nil_of_le (by rw [ids_len]; omega)] at hc
      simp only [List.all_nil] at hc
      try simp 
      apply he
      try simp 
      first | exact hc | exact hc.symm
theorem rsounds_c (t : Tab) (h : Sm t) : CallP Tryz.prog 61 [tabV t] (ints t.flatten) := by
  refine C61 (by simp) ?_
  have hn := h.num
  have hfl := flat_le t h.row
  generalize hR : t.flatten = R at hfl
  simp [A61]
  refine LoopK.by (ι := Nat × Nat × List Int) (fun x => ⟨[(4, iv x.1), (3, .sl 3 x.2.1 0 x.2.2.length), (0, tabV t)], [(3, some ⟨1, x.2.2.map iv, x.2.1, false⟩)]⟩) (fun x => t.length - x.1) (fun x => x.1 ≤ t.length ∧ x.2.2 ++ (t.drop x.1).flatten = R) (0, 1, []) ⟨Nat.zero_le _, by simpa using hR⟩ (by simp) ?_
  intro ⟨i, ver, acc⟩ Q' ⟨hi, hc⟩ hq he hr
  dsimp only at hi hc
  try simp 
  refine CondK.intro (fun h1 => ?_) (fun h1 => ?_)
  · simp at h1
    have hel := h.el i
    rw [drop_cons t i h1, List.flatten_cons, ← List.append_assoc] at hc
    have hlen : acc.length + (el t i).length ≤ 5000 := by
      have := congrArg List.length hc
      simp only [List.length_append] at this
      omega
    repeat (refine PreK.intro (by first | omega | (intros; first | omega | (refine ⟨by omega, ?_⟩; simp_all; done) | (simp_all; done) | (simp_all; omega))) fun _ => ?_; (try simp [h1]))
    exact hq (i + 1, ver + 1, acc ++ el t i) _ ⟨by dsimp only; omega, hc⟩ (by dsimp only; omega) (by simp)
  · simp at h1
    rw [List.drop_eq_nil_of_le (by omega)] at hc
    simp only [List.flatten_nil, List.append_nil] at hc
    try simp 
    apply he
    repeat (refine PreK.intro (by first | omega | (intros; first | omega | (refine ⟨by omega, ?_⟩; simp_all; done) | (simp_all; done) | (simp_all; omega))) fun _ => ?_; (try simp ))
    simp [hc]
theorem rrow_c (t : Tab) (s : Int) (h : Sm t) : CallP Tryz.prog 90 [tabV t, iv s] (iv (rowI s 0 t)) := by
  refine C90 (by simp) ?_
  have hn := h.num
  generalize hR : rowI s 0 t = R
  simp [A90]
  refine LoopK.by (fun i : Nat => ⟨[(5, iv i), (1, iv s), (0, tabV t)], []⟩) (fun i => t.length - i) (fun i => i ≤ t.length ∧ rowI s i (t.drop i) = R) 0 (by simpa using hR) (by simp) ?_
  intro i Q' ⟨hi, hc⟩ hq he hr
  try simp 
  refine CondK.intro (fun h1 => ?_) (fun h1 => ?_)
  · simp at h1
    have hel := h.el i
    have hh := has1_c (el t i) s (sbig (by omega))
    rw [drop_cons t i h1, rowI] at hc
    generalize (el t i).contains s = b at hh hc
    try simp [h1]
    repeat' (first
      | (refine CallX.pure (hh) (by simp) (by simp) ?_; try simp [h1])
      | (refine CallK.intro (hh) (by simp) (by simp) ?_; try simp [h1])
      | (refine CallG.intro (fun _ => hh) (by simp) (by simp) ?_; try simp [h1])
      | ((with_reducible refine PreK.intro ?_ ?_); (next => (first | omega | (intros; first | omega | (refine ⟨by omega, ?_⟩; repeat (first | assumption | constructor)) | assumption))); intro _; try simp [h1])
      | fail)
    cases b with
    | true =>
      refine CondK.tt ?_
      try simp 
      apply hr
      simpa using hc
    | false =>
      refine CondK.ff ?_
      try simp 
      repeat (refine PreK.intro (by first | omega | (intros; first | omega | (refine ⟨by omega, ?_⟩; simp_all; done) | (simp_all; done) | (simp_all; omega))) fun _ => ?_; (try simp ))
      exact hq (i + 1) _ ⟨by omega, by simpa using hc⟩ (by omega) (by simp)
  · simp at h1
    rw [List.drop_eq_nil_of_le (by omega), rowI] at hc
    try simp 
    apply he
    try simp 
    exact hc
theorem rValidate_c (t : Tab) (h : Sm t) : CallP Tryz.prog 50 [tabV t] (iv (tabErr t)) := by
  refine C50 (by simp) ?_
  have hn := h.num
  have hsc := rsounds_c t h
  have hfl := flat_le t h.row
  generalize hR : tabErr t = R
  unfold tabErr at hR
  simp [A50]
  have hw := within1_c t.length 1 6
  generalize hb : (decide (1 ≤ (t.length : Int)) && decide ((t.length : Int) ≤ 6)) = b at hR hw
  cases b with
  | false =>
    try simp 
    repeat' (first
      | (refine CallX.pure (hw) (by simp) (by simp) ?_; try simp )
      | (refine CallK.intro (hw) (by simp) (by simp) ?_; try simp )
      | (refine CallG.intro (fun _ => hw) (by simp) (by simp) ?_; try simp )
      | ((with_reducible refine PreK.intro ?_ ?_); (next => (first | omega | (intros; first | omega | (refine ⟨by omega, ?_⟩; repeat (first | assumption | constructor)) | assumption))); intro _; try simp )
      | fail)
    refine CondK.tt ?_
    try simp 
    simpa using hR
  | true =>
    simp only [Bool.and_eq_true, decide_eq_true_eq] at hb
    simp only [Bool.not_true, Bool.false_eq_true, if_false] at hR
    try simp 
    repeat' (first
      | (refine CallX.pure (hw) (by simp) (by simp) ?_; try simp )
      | (refine CallK.intro (hw) (by simp) (by simp) ?_; try simp )
      | (refine CallG.intro (fun _ => hw) (by simp) (by simp) ?_; try simp )
      | ((with_reducible refine PreK.intro ?_ ?_); (next => (first | omega | (intros; first | omega | (refine ⟨by omega, ?_⟩; repeat (first | assumption | constructor)) | assumption))); intro _; try simp )
      | fail)
    refine CondK.ff ?_
    try simp 
    try simp 
    refine LoopK.by (fun i : Nat => ⟨[(3, iv i), (0, tabV t)], []⟩) (fun i => t.length - i) (fun i => i ≤ t.length ∧ (if (t.drop i).any rowBad = true then (1 : Int) else if t.flatten.Nodup then 0 else 5) = R) 0 (by simpa using hR) (by simp) ?_
    intro i Q' ⟨hi, hc⟩ hq he hr
    try simp 
    refine CondK.intro (fun h1 => ?_) (fun h1 => ?_)
    · simp at h1
      have hel := h.el i
      rw [drop_cons t i h1, List.any_cons] at hc
      rw [show rowBad (el t i) = (decide (el t i = []) || (el t i).any fun x => !okS x) from rfl] at hc
      repeat (refine PreK.intro (by first | omega | (intros; first | omega | (refine ⟨by omega, ?_⟩; simp_all; done) | (simp_all; done) | (simp_all; omega))) fun _ => ?_; (try simp [h1]))
      refine CondK.intro (fun h2 => ?_) (fun h2 => ?_)
      · simp at h2
        simp only [h2, decide_true, Bool.true_or, if_true] at hc
        try simp 
        apply hr
        simp [hc]
      · simp at h2
        simp only [h2, decide_false, Bool.false_or] at hc
        try simp 
        refine LoopK.by (fun k : Nat => ⟨[(4, iv k), (3, iv i), (0, tabV t)], []⟩) (fun k => (el t i).length - k) (fun k => k ≤ (el t i).length ∧ (if (((el t i).drop k).any (fun x => !okS x) || (t.drop (i + 1)).any rowBad) = true then (1 : Int) else if t.flatten.Nodup then 0 else 5) = R) 0 ⟨Nat.zero_le _, by simpa using hc⟩ (by simp) ?_
        intro k Q2 ⟨hk, hc2⟩ hq2 he2 hr2
        try simp 
        repeat (refine PreK.intro (by first | omega | (intros; first | omega | (refine ⟨by omega, ?_⟩; simp_all; done) | (simp_all; done) | (simp_all; omega))) fun _ => ?_; (try simp [h1]))
        refine CondK.intro (fun h3 => ?_) (fun h3 => ?_)
        · simp at h3
          have hw2 := within1_c (el (el t i) k) 0 5
          rw [drop_cons (el t i) k h3, List.any_cons] at hc2
          unfold okS at hc2
          generalize (decide (0 ≤ el (el t i) k) && decide (el (el t i) k ≤ 5)) = b2 at hw2 hc2
          try simp [h1, h3]
          repeat' (first
            | (refine CallX.pure (hw2) (by simp) (by simp) ?_; try simp [h1, h3])
            | (refine CallK.intro (hw2) (by simp) (by simp) ?_; try simp [h1, h3])
            | (refine CallG.intro (fun _ => hw2) (by simp) (by simp) ?_; try simp [h1, h3])
            | ((with_reducible refine PreK.intro ?_ ?_); (next => (first | omega | (intros; first | omega | (refine ⟨by omega, ?_⟩; repeat (first | assumption | constructor)) | assumption))); intro _; try simp [h1, h3])
            | fail)
          cases b2 with
          | false =>
            simp only [Bool.not_false, Bool.true_or, if_true] at hc2
            refine CondK.tt ?_
            try simp 
            apply hr2
            try simp 
            apply hr
            simp [hc2]
          | true =>
            simp only [Bool.not_true, Bool.false_or] at hc2
            refine CondK.ff ?_
            try simp 
            repeat (refine PreK.intro (by first | omega | (intros; first | omega | (refine ⟨by omega, ?_⟩; simp_all; done) | (simp_all; done) | (simp_all; omega))) fun _ => ?_; (try simp ))
            exact hq2 (k + 1) _ ⟨by omega, hc2⟩ (by omega) (by simp)
        · simp at h3
          rw [List.drop_eq_nil_of_le (by omega)] at hc2
          simp only [List.any_nil, Bool.false_or] at hc2
          try simp 
          apply he2
          repeat (refine PreK.intro (by first | omega | (intros; first | omega | (refine ⟨by omega, ?_⟩; simp_all; done) | (simp_all; done) | (simp_all; omega))) fun _ => ?_; (try simp ))
          exact hq (i + 1) _ ⟨by omega, hc2⟩ (by omega) (by simp)
    · simp at h1
      rw [List.drop_eq_nil_of_le (by omega)] at hc
      simp only [List.any_nil, Bool.false_eq_true, if_false] at hc
      try simp 
      apply he
      try simp 
      repeat' (first
        | (refine CallX.pure (hsc) (by simp) (by simp) ?_; try simp )
        | (refine CallK.intro (hsc) (by simp) (by simp) ?_; try simp )
        | (refine CallG.intro (fun _ => hsc) (by simp) (by simp) ?_; try simp )
        | ((with_reducible refine PreK.intro ?_ ?_); (next => (first | omega | (intros; first | omega | (refine ⟨by omega, ?_⟩; repeat (first | assumption | constructor)) | assumption))); intro _; try simp )
        | fail)
      clear hq he hr
      have hmf : (List.map (List.map iv) t).flatten = List.map iv t.flatten := by rw [List.map_flatten]
      generalize t.flatten = l at hc hfl hmf
      refine LoopK.by (fun k : Nat => ⟨[(6, iv k), (5, ints l)], []⟩) (fun k => l.length - k) (fun k => k ≤ l.length ∧ (l.take k).Nodup) 0 (by simp) (by simp [hmf]) ?_
      intro k Q' ⟨hk, hnd⟩ hq he hr
      try simp 
      refine CondK.intro (fun h1 => ?_) (fun h1 => ?_)
      · simp at h1
        have hh := has1_c (l.take k) (el l k) (sbig (by rw [List.length_take]; omega))
        have hcn : (l.take k).contains (el l k) = decide (el l k ∈ l.take k) := by rw [Bool.eq_iff_iff, List.contains_iff_mem, decide_eq_true_eq]
        rw [hcn] at hh
        repeat (refine PreK.intro (by first | omega | (intros; first | omega | (refine ⟨by omega, ?_⟩; simp_all; done) | (simp_all; done) | (simp_all; omega))) fun _ => ?_; (try simp [h1]))
        refine CallK.intro (by simpa using hh) (by simp) (by simp) ?_
        try simp [h1]
        refine CondK.intro (fun h2 => ?_) (fun h2 => ?_)
        · simp only [decide_eq_true_eq] at h2
          have : ¬ l.Nodup := fun hn => (take_nodup hnd h1).1 (hn.sublist (List.take_sublist _ _)) h2
          rw [if_neg this] at hc
          try simp 
          apply hr
          simp [hc]
        · simp only [decide_eq_false_iff_not] at h2
          repeat (refine PreK.intro (by first | omega | (intros; first | omega | (refine ⟨by omega, ?_⟩; simp_all; done) | (simp_all; done) | (simp_all; omega))) fun _ => ?_; (try simp ))
          exact hq (k + 1) _ ⟨by omega, (take_nodup hnd h1).2 h2⟩ (by omega) (by simp)
      · simp at h1
        rw [List.take_of_length_le (by omega)] at hnd
        rw [if_pos hnd] at hc
        try simp 
        apply he
        simp [hc]
/-! ### the program's check, its line -/
@[simp] def lineV (t : Tab) : AV := .agg [ints t.flatten, ints (rowsF 0 t)]
theorem Validate_c (t : Tab) (h : Sm t) : CallP Tryz.prog 42 [tabV t] (iv (tabErr t)) := by
  refine C42 (by simp) ?_
  have hn := h.num
  have hfl := flat_le t h.row
  generalize hR : tabErr t = R
  unfold tabErr at hR
  simp [A42]
  have hw := swithin_c t.length 1 6
  generalize hb : (decide (1 ≤ (t.length : Int)) && decide ((t.length : Int) ≤ 6)) = b at hR hw
  cases b with
  | false =>
    try simp 
    repeat' (first
      | (refine CallX.pure (hw) (by simp) (by simp) ?_; try simp )
      | (refine CallK.intro (hw) (by simp) (by simp) ?_; try simp )
      | (refine CallG.intro (fun _ => hw) (by simp) (by simp) ?_; try simp )
      | ((with_reducible refine PreK.intro ?_ ?_); (next => (first | omega | (intros; first | omega | (refine ⟨by omega, ?_⟩; repeat (first | assumption | constructor)) | assumption))); intro _; try simp )
      | fail)
    refine CondK.tt ?_
    try simp 
    simpa using hR
  | true =>
    simp only [Bool.and_eq_true, decide_eq_true_eq] at hb
    simp only [Bool.not_true, Bool.false_eq_true, if_false] at hR
    try simp 
    repeat' (first
      | (refine CallX.pure (hw) (by simp) (by simp) ?_; try simp )
      | (refine CallK.intro (hw) (by simp) (by simp) ?_; try simp )
      | (refine CallG.intro (fun _ => hw) (by simp) (by simp) ?_; try simp )
      | ((with_reducible refine PreK.intro ?_ ?_); (next => (first | omega | (intros; first | omega | (refine ⟨by omega, ?_⟩; repeat (first | assumption | constructor)) | assumption))); intro _; try simp )
      | fail)
    refine CondK.ff ?_
    try simp 
    try simp 
    refine LoopK.by (fun i : Nat => ⟨[(12, iv i), (11, iv t.length), (10, tabV t), (0, tabV t)], []⟩) (fun i => t.length - i) (fun i => i ≤ t.length ∧ (if (t.drop i).any rowBad = true then (1 : Int) else if t.flatten.Nodup then 0 else 5) = R) 0 (by simpa using hR) (by simp) ?_
    intro i Q' ⟨hi, hc⟩ hq he hr
    try simp 
    refine CondK.intro (fun h1 => ?_) (fun h1 => ?_)
    · simp at h1
      have hel := h.el i
      rw [drop_cons t i h1, List.any_cons] at hc
      rw [show rowBad (el t i) = (decide (el t i = []) || (el t i).any fun x => !okS x) from rfl] at hc
      have hcf := containsFunc_c (el t i) (sbig (by omega)) 82 [] (fun n => !okS n) notS_c (by simp [snapL]) (by simp [AV.refsL]) (by simp [snapOKL])
      generalize ((el t i).any fun x => !okS x) = b at hcf hc
      by_cases h3 : el t i = []
      · simp only [h3, decide_true, Bool.true_or, if_true] at hc
        try simp [h1, h3]
        repeat (refine PreK.intro (by first | omega | (intros; first | omega | (refine ⟨by omega, ?_⟩; simp_all; done) | (simp_all; done) | (simp_all; omega))) fun _ => ?_; (try simp [h1, h3]))
        refine CallG.intro (r := bv true) (fun hh => by cases hh) (by simp) (by simp) ?_
        try simp 
        repeat (refine PreK.intro (by first | omega | (intros; first | omega | (refine ⟨by omega, ?_⟩; simp_all; done) | (simp_all; done) | (simp_all; omega))) fun _ => ?_; (try simp ))
        refine CondK.tt ?_
        try simp 
        apply hr
        simp [hc]
      · have h3' : ¬ (el t i).length = 0 := fun e => h3 (List.eq_nil_of_length_eq_zero e)
        simp only [h3, decide_false, Bool.false_or] at hc
        try simp [h1, h3, h3']
        repeat' (first
          | (refine CallX.pure (hcf) (by simp) (by simp) ?_; try simp [h1, h3, h3'])
          | (refine CallK.intro (hcf) (by simp) (by simp) ?_; try simp [h1, h3, h3'])
          | (refine CallG.intro (fun _ => hcf) (by simp) (by simp) ?_; try simp [h1, h3, h3'])
          | ((with_reducible refine PreK.intro ?_ ?_); (next => (first | omega | (intros; first | omega | (refine ⟨by omega, ?_⟩; repeat (first | assumption | constructor)) | assumption))); intro _; try simp [h1, h3, h3'])
          | fail)
        cases b with
        | true =>
          refine CondK.tt ?_
          try simp 
          apply hr
          simpa using hc
        | false =>
          refine CondK.ff ?_
          try simp 
          repeat (refine PreK.intro (by first | omega | (intros; first | omega | (refine ⟨by omega, ?_⟩; simp_all; done) | (simp_all; done) | (simp_all; omega))) fun _ => ?_; (try simp ))
          exact hq (i + 1) _ ⟨by omega, by simpa using hc⟩ (by omega) (by simp)
    · simp at h1
      rw [List.drop_eq_nil_of_le (by omega)] at hc
      simp only [List.any_nil, Bool.false_eq_true, if_false] at hc
      try simp 
      apply he
      have hcc := concat_o t (by omega) (by omega)
      have hmf : (List.map (List.map iv) t).flatten = List.map iv t.flatten := by rw [List.map_flatten]
      generalize t.flatten = l at hc hfl hcc hmf
      have hs1 := sortI_L l
      have hsl := sortI_len l
      have hs2 := Compact_L (sortI l) (by omega)
      have hcl := clone_o (sortI l) (by omega)
      have hnd := nodup_comp l
      have hcn := compI_num (sortI l)
      generalize sortI l = s at hs1 hsl hs2 hcl hnd hcn
      generalize compI s = u at hs2 hnd hcn
      try simp 
      refine CallX.own (by simpa using hcc) (by simp) (by simp) ?_
      try simp 
      refine CallX.lend [] (id := 25) (ver := 1) (n := l.length) (b := ⟨1, l.map iv, 1, false⟩) [] (.val (.tup [])) _ (by simp) (by simp) (by simp) (by simp) (by simp) (by simp) (by simp) (by simpa using hs1) ?_
      try simp 
      have htk : List.take l.length (List.map iv s) = List.map iv s := List.take_of_length_le (by simp [hsl])
      refine CallX.own (by simpa [htk] using hcl) (by simp [hsl]) (.inr (flat_ivs s)) ?_
      try simp [htk, hsl]
      refine CallX.lend [] (id := 29) (ver := 1) (n := s.length) (b := ⟨1, s.map iv, 1, false⟩) [] (.part u.length) _ (by simp [hsl]) (by simp) (by simp) (by simp) (by simp) (by simp) (by simp) (by simpa using hs2) ?_
      try simp 
      repeat (refine PreK.intro (by first | omega | (intros; first | omega | (refine ⟨by omega, ?_⟩; simp_all; done) | (simp_all; done) | (simp_all; omega))) fun _ => ?_; (try simp ))
      refine CondK.intro (fun h2 => ?_) (fun h2 => ?_)
      · simp at h2
        rw [if_neg (by rw [← hnd]; omega)] at hc
        try simp 
        exact hc
      · simp at h2
        rw [if_pos (by rw [← hnd]; omega)] at hc
        try simp 
        exact hc
theorem lineOf_c (t : Tab) (h : TabOK t) : CallP Tryz.prog 44 [tabV t] (lineV t) := by
  refine C44 (by simp) ?_
  have hn := h.num
  have hp := h.pos
  have hl := h.len
  have hrow : ∀ i, i < t.length → 1 ≤ (el t i).length ∧ (el t i).length ≤ 6 := by
    intro i hi
    have h1 := h.row _ (el_mem_of t i hi)
    have h2 : (el t i).length ≠ 0 := fun e => h1 (List.eq_nil_of_length_eq_zero e)
    have h3 : (el t i).Sublist t.flatten := by
      have : t.flatten = (t.take i).flatten ++ (el t i ++ (t.drop (i + 1)).flatten) := by
        conv => lhs; rw [← List.take_append_drop i t, drop_cons t i hi]
        simp
      rw [this]
      exact (List.sublist_append_left _ _).trans (List.sublist_append_right _ _)
    have := h3.length_le
    omega
  generalize hR : rowsF 0 t = R
  have hRl : R.length ≤ 6 := by rw [← hR, rowsF_len]; exact hl
  unfold lineV
  rw [hR]
  generalize hL : t.flatten = L at hl
  simp [A44]
  refine LoopK.by (ι := Nat × Nat × List Int × Nat × List Int) (fun x => match x.1 with
    | 0 => ⟨[(8, iv (0 : Nat)), (7, iv t.length), (6, tabV t), (3, .pt 3 1 0 0), (2, .pt 2 1 0 0)], [(3, some ⟨2, [.agg [.seq 1 [] true, .seq 1 [] true]], 1, true⟩), (2, some ⟨2, [.agg [.seq 1 [] true, .seq 1 [] true]], 1, true⟩)]⟩
    | k + 1 => ⟨[(8, iv (k + 1 : Nat)), (7, iv t.length), (6, tabV t), (3, .pt 3 1 0 0), (2, .pt 2 1 0 0)], [(3, some ⟨2, [.agg [.sl 16 x.2.1 0 x.2.2.1.length, .sl 25 x.2.2.2.1 0 x.2.2.2.2.length]], 1, true⟩), (16, some ⟨1, x.2.2.1.map iv, x.2.1, false⟩), (25, some ⟨1, x.2.2.2.2.map iv, x.2.2.2.1, false⟩), (2, some ⟨2, [.agg [.seq 1 [] true, .seq 1 [] true]], 1, true⟩)]⟩) (fun x => t.length - x.1)
    (fun x => x.1 ≤ t.length ∧ x.2.2.1 ++ (t.drop x.1).flatten = L ∧ x.2.2.2.2 ++ rowsF x.1 (t.drop x.1) = R ∧ (x.1 = 0 → x.2.2.1 = [] ∧ x.2.2.2.2 = [])) (0, 1, [], 1, []) ⟨Nat.zero_le _, by simpa using hL, by simpa using hR, fun _ => ⟨rfl, rfl⟩⟩ (by simp) ?_
  intro ⟨i, v1, a1, v2, a2⟩ Q' ⟨hi, hc1, hc2, hc3⟩ hq he hr
  dsimp only at hi hc1 hc2 hc3
  have hlen1 := congrArg List.length hc1
  have hlen2 := congrArg List.length hc2
  simp only [List.length_append] at hlen1 hlen2
  cases i with
  | zero =>
    obtain ⟨rfl, rfl⟩ := hc3 rfl
    have h1 : 0 < t.length := by omega
    obtain ⟨r1, r2⟩ := hrow 0 h1
    have hrep := (repeat_o false ((0 : Nat) : Int) (el t 0).length (by omega) (by omega)).toP
    rw [drop_cons t 0 h1, List.flatten_cons] at hc1
    rw [drop_cons t 0 h1, rowsF] at hc2
    try simp 
    refine CondK.intro (fun h2 => ?_) (fun h2 => ?_)
    · repeat (refine PreK.intro (by first | omega | (intros; first | omega | (refine ⟨by omega, ?_⟩; simp_all; done) | (simp_all; done) | (simp_all; omega))) fun _ => ?_; (try simp [h1]))
      refine CallK.intro (by simpa using hrep) (by simp) (by simp) ?_
      try simp [h1]
      repeat (refine PreK.intro (by first | omega | (intros; first | omega | (refine ⟨by omega, ?_⟩; simp_all; done) | (simp_all; done) | (simp_all; omega))) fun _ => ?_; (try simp [h1]))
      exact hq (1, 1, el t 0, 1, List.replicate (el t 0).length 0) _ ⟨by dsimp only; omega, by simpa using hc1, by simpa using hc2, fun h => by cases h⟩ (by dsimp only; omega) (by simp)
    · simp at h2
      simp [h2] at h1
  | succ i =>
    try simp 
    refine CondK.intro (fun h2 => ?_) (fun h2 => ?_)
    · simp at h2
      replace h2 : i + 1 < t.length := by omega
      obtain ⟨r1, r2⟩ := hrow (i + 1) h2
      have hrep := (repeat_o false ((i + 1 : Nat) : Int) (el t (i + 1)).length (by omega) (by omega)).toP
      rw [drop_cons t (i + 1) h2, List.flatten_cons, ← List.append_assoc] at hc1
      rw [drop_cons t (i + 1) h2, rowsF, ← List.append_assoc] at hc2
      repeat (refine PreK.intro (by first | omega | (intros; first | omega | (refine ⟨by omega, ?_⟩; simp_all; done) | (simp_all; done) | (simp_all; omega))) fun _ => ?_; (try simp [h2]))
      refine CallK.intro (by simpa using hrep) (by simp) (by simp) ?_
      try simp [h2]
      repeat (refine PreK.intro (by first | omega | (intros; first | omega | (refine ⟨by omega, ?_⟩; simp_all; done) | (simp_all; done) | (simp_all; omega))) fun _ => ?_; (try simp [h2]))
      exact hq (i + 2, v1 + 1, a1 ++ el t (i + 1), v2 + 1, a2 ++ List.replicate (el t (i + 1)).length ((i + 1 : Nat) : Int)) _ ⟨by dsimp only; omega, hc1, hc2, fun h => by cases h⟩ (by dsimp only; omega) (by simp)
    · simp at h2
      rw [List.drop_eq_nil_of_le (by omega)] at hc1 hc2
      simp only [List.flatten_nil, List.append_nil, rowsF] at hc1 hc2
      subst hc1 hc2
      try simp 
      apply he
      repeat (refine PreK.intro (by first | omega | (intros; first | omega | (refine ⟨by omega, ?_⟩; simp_all; done) | (simp_all; done) | (simp_all; omega))) fun _ => ?_; (try simp ))
end Go.Proofs.YtgfgkfkplidncaaGreat
end

section
/- Functions of the cut as the value layer reads them. (written by gen.py) -/
set_option maxRecDepth 20000
namespace Go.Proofs.YtgfgkfkplidncaaGreat
open Go.Abs Go

def A13 : ACode :=
  (.seq (.reg [] [⟨some 0, (.assign (.const (.bool false))), 4, none⟩])
    (.seq (.reg [] [⟨some 7, (.buildSlice 23 2 #[(0, (.const (.int .i64 0))), (1, (.const (.int .i64 1)))]), 23, none⟩,
      ⟨some 8, (.buildSlice 23 1 #[(0, (.const (.int .i64 2)))]), 23, none⟩,
      ⟨some 9, (.buildSlice 22 2 #[(0, (.tmp 7)), (1, (.tmp 8))]), 22, none⟩,
      ⟨some 10, (.call ⟨(.value (.func 25)), #[(.tmp 9)], #[22]⟩), 40, none⟩,
      ⟨some 6, (.move (.tmp 10)), 40, none⟩,
      ⟨some 11, (.extract (.tmp 6) 0), 22, none⟩,
      ⟨some 12, (.extract (.tmp 6) 1), 28, none⟩,
      ⟨some 1, (.assign (.tmp 11)), 22, none⟩,
      ⟨some 2, (.assign (.tmp 12)), 28, none⟩])
    (.seq (.reg [] [⟨some 14, (.buildSlice 23 2 #[(0, (.const (.int .i64 0))), (1, (.const (.int .i64 1)))]), 23, none⟩,
      ⟨some 15, (.buildSlice 23 2 #[(0, (.const (.int .i64 1))), (1, (.const (.int .i64 2)))]), 23, none⟩,
      ⟨some 16, (.buildSlice 23 2 #[(0, (.const (.int .i64 0))), (1, (.const (.int .i64 2)))]), 23, none⟩,
      ⟨some 17, (.buildSlice 22 3 #[(0, (.tmp 14)), (1, (.tmp 15)), (2, (.tmp 16))]), 22, none⟩,
      ⟨some 18, (.call ⟨(.value (.func 37)), #[(.const (.int .i64 3)), (.tmp 17)], #[3, 22]⟩), 54, none⟩,
      ⟨some 13, (.move (.tmp 18)), 54, none⟩,
      ⟨some 19, (.extract (.tmp 13) 0), 23, none⟩,
      ⟨some 20, (.extract (.tmp 13) 1), 4, none⟩,
      ⟨some 21, (.extract (.tmp 13) 2), 28, none⟩,
      ⟨some 3, (.assign (.tmp 19)), 23, none⟩,
      ⟨some 4, (.assign (.tmp 20)), 4, none⟩,
      ⟨some 5, (.assign (.tmp 21)), 28, none⟩])
    (.seq (.reg [] [⟨some 22, (.move (.tmp 2)), 28, none⟩,
      ⟨some 23, (.binOp .eql 28 (.tmp 22) (.const (.int .i64 0)) 28), 4, none⟩,
      ⟨some 24, (.move (.tmp 23)), 4, none⟩,
      ⟨some 25, (.move (.tmp 1)), 22, some (24, true)⟩,
      ⟨some 26, (.buildSlice 23 2 #[(0, (.const (.int .i64 0))), (1, (.const (.int .i64 1)))]), 23, some (24, true)⟩,
      ⟨some 27, (.buildSlice 23 3 #[(0, (.const (.int .i64 0))), (1, (.const (.int .i64 1))), (2, (.const (.int .i64 2)))]), 23, some (24, true)⟩,
      ⟨some 28, (.buildSlice 23 1 #[(0, (.const (.int .i64 1)))]), 23, some (24, true)⟩,
      ⟨some 29, (.buildSlice 23 2 #[(0, (.const (.int .i64 1))), (1, (.const (.int .i64 2)))]), 23, some (24, true)⟩,
      ⟨some 30, (.buildSlice 23 1 #[(0, (.const (.int .i64 2)))]), 23, some (24, true)⟩,
      ⟨some 31, (.buildSlice 22 5 #[(0, (.tmp 26)), (1, (.tmp 27)), (2, (.tmp 28)), (3, (.tmp 29)), (4, (.tmp 30))]), 22, some (24, true)⟩,
      ⟨some 32, (.call ⟨(.value (.func 23)), #[(.tmp 25), (.tmp 31)], #[22, 22]⟩), 4, some (24, true)⟩,
      ⟨some 33, (.pick (.tmp 24) (.tmp 32) (.const (.bool false))), 4, none⟩,
      ⟨some 34, (.move (.tmp 33)), 4, none⟩,
      ⟨some 35, (.move (.tmp 5)), 28, some (34, true)⟩,
      ⟨some 36, (.binOp .eql 28 (.tmp 35) (.const (.int .i64 0)) 28), 4, some (34, true)⟩,
      ⟨some 37, (.pick (.tmp 34) (.tmp 36) (.const (.bool false))), 4, none⟩,
      ⟨some 38, (.move (.tmp 37)), 4, none⟩,
      ⟨some 39, (.move (.tmp 4)), 4, some (38, true)⟩,
      ⟨some 40, (.unOp .not 4 (.tmp 39)), 4, some (38, true)⟩,
      ⟨some 41, (.pick (.tmp 38) (.tmp 40) (.const (.bool false))), 4, none⟩,
      ⟨some 0, (.assign (.tmp 41)), 4, none⟩])
    .ret))))
theorem C13 {args : List AV} {r : AV} (hn : args.length ≤ 42) (h : vc Tryz.prog T [] A13 (Fin T [(.tmp 0)] r) ⟨envOf 0 args, []⟩) : CallP Tryz.prog 13 args r :=
  callP_of tok mixed Tryz.func13 (by kernel_rfl) (by kernel_rfl) (by kernel_rfl : Tryz.f13.ntmps = 42) (by kernel_rfl : Tryz.f13.body.bind (strip 42 (fun _ => [])) = some A13) hn h
def A12 : ACode :=
  (.seq (.reg [] [⟨some 2, (.assign (.const (.bool false))), 4, none⟩])
    (.seq (.reg [] [⟨some 3, (.move (.tmp 0)), 23, none⟩,
      ⟨some 4, (.call ⟨(.builtin .len), #[(.tmp 3)], #[23]⟩), 3, none⟩,
      ⟨some 5, (.binOp .gtr 3 (.tmp 4) (.const (.int .i64 100)) 3), 4, none⟩,
      ⟨some 2, (.assign (.tmp 5)), 4, none⟩])
    .ret))
theorem C12 {args : List AV} {r : AV} (hn : args.length ≤ 6) (h : vc Tryz.prog T [] A12 (Fin T [(.tmp 2)] r) ⟨envOf 0 args, []⟩) : CallP Tryz.prog 12 args r :=
  callP_of tok mixed Tryz.func12 (by kernel_rfl) (by kernel_rfl) (by kernel_rfl : Tryz.f12.ntmps = 6) (by kernel_rfl : Tryz.f12.body.bind (strip 6 (fun _ => [])) = some A12) hn h
def A11 : ACode :=
  (.seq (.reg [] [⟨some 2, (.assign (.const (.bool false))), 4, none⟩])
    (.seq (.seq (.reg [] [⟨some 4, (.move (.tmp 0)), 22, none⟩,
      ⟨some 5, (.call ⟨(.builtin .len), #[(.tmp 4)], #[22]⟩), 3, none⟩,
      ⟨some 6, (.binOp .gtr 3 (.tmp 5) (.const (.int .i64 50)) 3), 4, none⟩])
    (.cond (.tmp 6)
    (.seq (.reg [] [⟨some 2, (.assign (.const (.bool true))), 4, none⟩])
    .ret)
    .skip))
    (.seq (.seq (.reg [] [⟨some 3, (.assign (.const (.int .i64 0))), 3, none⟩])
    (.block 0 (.loop (.seq (.seq (.reg [] [⟨some 7, (.move (.tmp 3)), 3, none⟩,
      ⟨some 8, (.move (.tmp 0)), 22, none⟩,
      ⟨some 9, (.call ⟨(.builtin .len), #[(.tmp 8)], #[22]⟩), 3, none⟩,
      ⟨some 10, (.binOp .lss 3 (.tmp 7) (.tmp 9) 3), 4, none⟩])
    (.cond (.tmp 10)
    .skip
    (.exit 0)))
    (.seq (.block 1 (.seq (.reg [] [⟨some 13, (.move (.tmp 0)), 22, none⟩,
      ⟨some 14, (.move (.tmp 3)), 3, none⟩,
      ⟨some 15, (.indexAddr 22 (.tmp 13) (.tmp 14)), 0, none⟩,
      ⟨some 16, (.load 23 (.tmp 15)), 23, none⟩,
      ⟨some 17, (.call ⟨(.value (.func 12)), #[(.tmp 16)], #[23]⟩), 4, none⟩])
    (.cond (.tmp 17)
    (.seq (.reg [] [⟨some 2, (.assign (.const (.bool true))), 4, none⟩])
    .ret)
    .skip)))
    (.reg [] [⟨some 11, (.move (.tmp 3)), 3, none⟩,
      ⟨some 12, (.binOp .add 3 (.tmp 11) (.const (.int .i64 1)) 3), 3, none⟩,
      ⟨some 3, (.assign (.tmp 12)), 3, none⟩]))))))
    (.seq (.reg [] [⟨some 2, (.assign (.const (.bool false))), 4, none⟩])
    .ret))))
theorem C11 {args : List AV} {r : AV} (hn : args.length ≤ 18) (h : vc Tryz.prog T [] A11 (Fin T [(.tmp 2)] r) ⟨envOf 0 args, []⟩) : CallP Tryz.prog 11 args r :=
  callP_of tok mixed Tryz.func11 (by kernel_rfl) (by kernel_rfl) (by kernel_rfl : Tryz.f11.ntmps = 18) (by kernel_rfl : Tryz.f11.body.bind (strip 18 (fun _ => [])) = some A11) hn h
def A3 : ACode :=
  (.seq (.reg [] [⟨some 4, (.assign (.const (.bool false))), 4, none⟩])
    (.seq (.seq (.reg [] [⟨some 9, (.move (.tmp 0)), 22, none⟩,
      ⟨some 10, (.call ⟨(.value (.func 11)), #[(.tmp 9)], #[22]⟩), 4, none⟩,
      ⟨some 11, (.move (.tmp 10)), 4, none⟩,
      ⟨some 12, (.move (.tmp 1)), 23, some (11, false)⟩,
      ⟨some 13, (.call ⟨(.value (.func 12)), #[(.tmp 12)], #[23]⟩), 4, some (11, false)⟩,
      ⟨some 14, (.pick (.tmp 11) (.const (.bool true)) (.tmp 13)), 4, none⟩])
    (.cond (.tmp 14)
    (.seq (.reg [] [⟨some 15, (.call ⟨(.value (.func 13)), #[], #[]⟩), 4, none⟩,
      ⟨some 4, (.assign (.tmp 15)), 4, none⟩])
    .ret)
    .skip))
    (.seq (.reg [] [⟨some 17, (.move (.tmp 0)), 22, none⟩,
      ⟨some 18, (.move (.tmp 1)), 23, none⟩,
      ⟨some 19, (.call ⟨(.value (.func 14)), #[(.tmp 17), (.tmp 18)], #[22, 23]⟩), 29, none⟩,
      ⟨some 16, (.move (.tmp 19)), 29, none⟩,
      ⟨some 20, (.extract (.tmp 16) 0), 27, none⟩,
      ⟨some 21, (.extract (.tmp 16) 1), 28, none⟩,
      ⟨some 5, (.assign (.tmp 20)), 27, none⟩,
      ⟨some 6, (.assign (.tmp 21)), 28, none⟩])
    (.seq (.reg [] [⟨some 23, (.move (.tmp 0)), 22, none⟩,
      ⟨some 24, (.move (.tmp 1)), 23, none⟩,
      ⟨some 25, (.call ⟨(.value (.func 15)), #[(.tmp 23), (.tmp 24)], #[22, 23]⟩), 29, none⟩,
      ⟨some 22, (.move (.tmp 25)), 29, none⟩,
      ⟨some 26, (.extract (.tmp 22) 0), 27, none⟩,
      ⟨some 27, (.extract (.tmp 22) 1), 28, none⟩,
      ⟨some 7, (.assign (.tmp 26)), 27, none⟩,
      ⟨some 8, (.assign (.tmp 27)), 28, none⟩])
    (.seq (.reg [] [⟨some 28, (.move (.tmp 5)), 27, none⟩,
      ⟨some 29, (.move (.tmp 7)), 27, none⟩,
      ⟨some 30, (.call ⟨(.value (.func 16)), #[(.tmp 28), (.tmp 29)], #[27, 27]⟩), 4, none⟩,
      ⟨some 31, (.move (.tmp 30)), 4, none⟩,
      ⟨some 32, (.move (.tmp 6)), 28, some (31, true)⟩,
      ⟨some 33, (.move (.tmp 8)), 28, some (31, true)⟩,
      ⟨some 34, (.binOp .eql 28 (.tmp 32) (.tmp 33) 28), 4, some (31, true)⟩,
      ⟨some 35, (.pick (.tmp 31) (.tmp 34) (.const (.bool false))), 4, none⟩,
      ⟨some 36, (.move (.tmp 35)), 4, none⟩,
      ⟨some 37, (.call ⟨(.value (.func 13)), #[], #[]⟩), 4, some (36, true)⟩,
      ⟨some 38, (.pick (.tmp 36) (.tmp 37) (.const (.bool false))), 4, none⟩,
      ⟨some 4, (.assign (.tmp 38)), 4, none⟩])
    .ret)))))
theorem C3 {args : List AV} {r : AV} (hn : args.length ≤ 39) (h : vc Tryz.prog T [] A3 (Fin T [(.tmp 4)] r) ⟨envOf 0 args, []⟩) : CallP Tryz.prog 3 args r :=
  callP_of tok mixed Tryz.func3 (by kernel_rfl) (by kernel_rfl) (by kernel_rfl : Tryz.f3.ntmps = 39) (by kernel_rfl : Tryz.f3.body.bind (strip 39 (fun _ => [])) = some A3) hn h
def A4 : ACode :=
  (.seq (.reg [] [⟨some 6, (.assign (.const (.bool false))), 4, none⟩])
    (.seq (.seq (.reg [] [⟨some 7, (.move (.tmp 1)), 22, none⟩,
      ⟨some 8, (.call ⟨(.value (.func 11)), #[(.tmp 7)], #[22]⟩), 4, none⟩,
      ⟨some 9, (.move (.tmp 8)), 4, none⟩,
      ⟨some 10, (.move (.tmp 2)), 22, some (9, false)⟩,
      ⟨some 11, (.call ⟨(.value (.func 11)), #[(.tmp 10)], #[22]⟩), 4, some (9, false)⟩,
      ⟨some 12, (.pick (.tmp 9) (.const (.bool true)) (.tmp 11)), 4, none⟩])
    (.cond (.tmp 12)
    (.seq (.reg [] [⟨some 13, (.call ⟨(.value (.func 13)), #[], #[]⟩), 4, none⟩,
      ⟨some 6, (.assign (.tmp 13)), 4, none⟩])
    .ret)
    .skip))
    (.seq (.reg [] [⟨some 14, (.move (.tmp 0)), 3, none⟩,
      ⟨some 15, (.move (.tmp 1)), 22, none⟩,
      ⟨some 16, (.move (.tmp 2)), 22, none⟩,
      ⟨some 17, (.call ⟨(.value (.func 17)), #[(.tmp 14), (.tmp 15), (.tmp 16)], #[3, 22, 22]⟩), 28, none⟩,
      ⟨some 18, (.move (.tmp 0)), 3, none⟩,
      ⟨some 19, (.move (.tmp 1)), 22, none⟩,
      ⟨some 20, (.move (.tmp 2)), 22, none⟩,
      ⟨some 21, (.call ⟨(.value (.func 18)), #[(.tmp 18), (.tmp 19), (.tmp 20)], #[3, 22, 22]⟩), 28, none⟩,
      ⟨some 22, (.binOp .eql 28 (.tmp 17) (.tmp 21) 28), 4, none⟩,
      ⟨some 23, (.move (.tmp 22)), 4, none⟩,
      ⟨some 24, (.call ⟨(.value (.func 13)), #[], #[]⟩), 4, some (23, true)⟩,
      ⟨some 25, (.pick (.tmp 23) (.tmp 24) (.const (.bool false))), 4, none⟩,
      ⟨some 6, (.assign (.tmp 25)), 4, none⟩])
    .ret)))
theorem C4 {args : List AV} {r : AV} (hn : args.length ≤ 26) (h : vc Tryz.prog T [] A4 (Fin T [(.tmp 6)] r) ⟨envOf 0 args, []⟩) : CallP Tryz.prog 4 args r :=
  callP_of tok mixed Tryz.func4 (by kernel_rfl) (by kernel_rfl) (by kernel_rfl : Tryz.f4.ntmps = 26) (by kernel_rfl : Tryz.f4.body.bind (strip 26 (fun _ => [])) = some A4) hn h
def A5 : ACode :=
  (.seq (.reg [] [⟨some 4, (.assign (.const (.bool false))), 4, none⟩])
    (.seq (.seq (.reg [] [⟨some 11, (.move (.tmp 1)), 22, none⟩,
      ⟨some 12, (.call ⟨(.value (.func 11)), #[(.tmp 11)], #[22]⟩), 4, none⟩])
    (.cond (.tmp 12)
    (.seq (.reg [] [⟨some 13, (.call ⟨(.value (.func 13)), #[], #[]⟩), 4, none⟩,
      ⟨some 4, (.assign (.tmp 13)), 4, none⟩])
    .ret)
    .skip))
    (.seq (.reg [] [⟨some 15, (.move (.tmp 0)), 3, none⟩,
      ⟨some 16, (.move (.tmp 1)), 22, none⟩,
      ⟨some 17, (.call ⟨(.value (.func 19)), #[(.tmp 15), (.tmp 16)], #[3, 22]⟩), 35, none⟩,
      ⟨some 14, (.move (.tmp 17)), 35, none⟩,
      ⟨some 18, (.extract (.tmp 14) 0), 22, none⟩,
      ⟨some 19, (.extract (.tmp 14) 1), 4, none⟩,
      ⟨some 20, (.extract (.tmp 14) 2), 28, none⟩,
      ⟨some 5, (.assign (.tmp 18)), 22, none⟩,
      ⟨some 6, (.assign (.tmp 19)), 4, none⟩,
      ⟨some 7, (.assign (.tmp 20)), 28, none⟩])
    (.seq (.reg [] [⟨some 22, (.move (.tmp 0)), 3, none⟩,
      ⟨some 23, (.move (.tmp 1)), 22, none⟩,
      ⟨some 24, (.call ⟨(.value (.func 20)), #[(.tmp 22), (.tmp 23)], #[3, 22]⟩), 37, none⟩,
      ⟨some 21, (.move (.tmp 24)), 37, none⟩,
      ⟨some 25, (.extract (.tmp 21) 0), 3, none⟩,
      ⟨some 26, (.extract (.tmp 21) 1), 4, none⟩,
      ⟨some 27, (.extract (.tmp 21) 2), 28, none⟩,
      ⟨some 8, (.assign (.tmp 25)), 3, none⟩,
      ⟨some 9, (.assign (.tmp 26)), 4, none⟩,
      ⟨some 10, (.assign (.tmp 27)), 28, none⟩])
    (.seq (.seq (.reg [] [⟨some 28, (.move (.tmp 7)), 28, none⟩,
      ⟨some 29, (.move (.tmp 10)), 28, none⟩,
      ⟨some 30, (.binOp .neq 28 (.tmp 28) (.tmp 29) 28), 4, none⟩,
      ⟨some 31, (.move (.tmp 30)), 4, none⟩,
      ⟨some 32, (.move (.tmp 6)), 4, some (31, false)⟩,
      ⟨some 33, (.move (.tmp 9)), 4, some (31, false)⟩,
      ⟨some 34, (.binOp .neq 4 (.tmp 32) (.tmp 33) 4), 4, some (31, false)⟩,
      ⟨some 35, (.pick (.tmp 31) (.const (.bool true)) (.tmp 34)), 4, none⟩])
    (.cond (.tmp 35)
    (.seq (.reg [] [⟨some 4, (.assign (.const (.bool false))), 4, none⟩])
    .ret)
    .skip))
    (.seq (.seq (.reg [] [⟨some 36, (.move (.tmp 6)), 4, none⟩,
      ⟨some 37, (.unOp .not 4 (.tmp 36)), 4, none⟩])
    (.cond (.tmp 37)
    (.seq (.reg [] [⟨some 38, (.move (.tmp 5)), 22, none⟩,
      ⟨some 39, (.call ⟨(.builtin .len), #[(.tmp 38)], #[22]⟩), 3, none⟩,
      ⟨some 40, (.binOp .eql 3 (.tmp 39) (.const (.int .i64 0)) 3), 4, none⟩,
      ⟨some 41, (.move (.tmp 40)), 4, none⟩,
      ⟨some 42, (.call ⟨(.value (.func 13)), #[], #[]⟩), 4, some (41, true)⟩,
      ⟨some 43, (.pick (.tmp 41) (.tmp 42) (.const (.bool false))), 4, none⟩,
      ⟨some 4, (.assign (.tmp 43)), 4, none⟩])
    .ret)
    .skip))
    (.seq (.reg [] [⟨some 44, (.move (.tmp 5)), 22, none⟩,
      ⟨some 45, (.call ⟨(.value (.func 11)), #[(.tmp 44)], #[22]⟩), 4, none⟩,
      ⟨some 46, (.unOp .not 4 (.tmp 45)), 4, none⟩,
      ⟨some 47, (.move (.tmp 46)), 4, none⟩,
      ⟨some 48, (.move (.tmp 0)), 3, some (47, true)⟩,
      ⟨some 49, (.move (.tmp 1)), 22, some (47, true)⟩,
      ⟨some 50, (.move (.tmp 5)), 22, some (47, true)⟩,
      ⟨some 51, (.call ⟨(.value (.func 18)), #[(.tmp 48), (.tmp 49), (.tmp 50)], #[3, 22, 22]⟩), 28, some (47, true)⟩,
      ⟨some 52, (.binOp .eql 28 (.tmp 51) (.const (.int .i64 0)) 28), 4, some (47, true)⟩,
      ⟨some 53, (.pick (.tmp 47) (.tmp 52) (.const (.bool false))), 4, none⟩,
      ⟨some 54, (.move (.tmp 53)), 4, none⟩,
      ⟨some 55, (.move (.tmp 5)), 22, some (54, true)⟩,
      ⟨some 56, (.call ⟨(.builtin .len), #[(.tmp 55)], #[22]⟩), 3, some (54, true)⟩,
      ⟨some 57, (.move (.tmp 8)), 3, some (54, true)⟩,
      ⟨some 58, (.binOp .eql 3 (.tmp 56) (.tmp 57) 3), 4, some (54, true)⟩,
      ⟨some 59, (.pick (.tmp 54) (.tmp 58) (.const (.bool false))), 4, none⟩,
      ⟨some 60, (.move (.tmp 59)), 4, none⟩,
      ⟨some 61, (.call ⟨(.value (.func 13)), #[], #[]⟩), 4, some (60, true)⟩,
      ⟨some 62, (.pick (.tmp 60) (.tmp 61) (.const (.bool false))), 4, none⟩,
      ⟨some 4, (.assign (.tmp 62)), 4, none⟩])
    .ret)))))))
theorem C5 {args : List AV} {r : AV} (hn : args.length ≤ 63) (h : vc Tryz.prog T [] A5 (Fin T [(.tmp 4)] r) ⟨envOf 0 args, []⟩) : CallP Tryz.prog 5 args r :=
  callP_of tok mixed Tryz.func5 (by kernel_rfl) (by kernel_rfl) (by kernel_rfl : Tryz.f5.ntmps = 63) (by kernel_rfl : Tryz.f5.body.bind (strip 63 (fun _ => [])) = some A5) hn h
def A7 : ACode :=
  (.seq (.reg [] [⟨some 6, (.assign (.const (.bool false))), 4, none⟩])
    (.seq (.seq (.reg [] [⟨some 14, (.move (.tmp 1)), 22, none⟩,
      ⟨some 15, (.call ⟨(.value (.func 11)), #[(.tmp 14)], #[22]⟩), 4, none⟩,
      ⟨some 16, (.move (.tmp 15)), 4, none⟩,
      ⟨some 17, (.move (.tmp 2)), 23, some (16, false)⟩,
      ⟨some 18, (.call ⟨(.value (.func 12)), #[(.tmp 17)], #[23]⟩), 4, some (16, false)⟩,
      ⟨some 19, (.pick (.tmp 16) (.const (.bool true)) (.tmp 18)), 4, none⟩])
    (.cond (.tmp 19)
    (.seq (.reg [] [⟨some 20, (.call ⟨(.value (.func 13)), #[], #[]⟩), 4, none⟩,
      ⟨some 6, (.assign (.tmp 20)), 4, none⟩])
    .ret)
    .skip))
    (.seq (.reg [] [⟨some 22, (.move (.tmp 0)), 3, none⟩,
      ⟨some 23, (.move (.tmp 1)), 22, none⟩,
      ⟨some 24, (.move (.tmp 2)), 23, none⟩,
      ⟨some 25, (.call ⟨(.value (.func 28)), #[(.tmp 22), (.tmp 23), (.tmp 24)], #[3, 22, 23]⟩), 46, none⟩,
      ⟨some 21, (.move (.tmp 25)), 46, none⟩,
      ⟨some 26, (.extract (.tmp 21) 0), 3, none⟩,
      ⟨some 27, (.extract (.tmp 21) 1), 28, none⟩,
      ⟨some 7, (.assign (.tmp 26)), 3, none⟩,
      ⟨some 8, (.assign (.tmp 27)), 28, none⟩])
    (.seq (.reg [] [⟨some 29, (.move (.tmp 0)), 3, none⟩,
      ⟨some 30, (.move (.tmp 1)), 22, none⟩,
      ⟨some 31, (.move (.tmp 2)), 23, none⟩,
      ⟨some 32, (.call ⟨(.value (.func 29)), #[(.tmp 29), (.tmp 30), (.tmp 31)], #[3, 22, 23]⟩), 46, none⟩,
      ⟨some 28, (.move (.tmp 32)), 46, none⟩,
      ⟨some 33, (.extract (.tmp 28) 0), 3, none⟩,
      ⟨some 34, (.extract (.tmp 28) 1), 28, none⟩,
      ⟨some 9, (.assign (.tmp 33)), 3, none⟩,
      ⟨some 10, (.assign (.tmp 34)), 28, none⟩])
    (.seq (.seq (.reg [] [⟨some 35, (.move (.tmp 7)), 3, none⟩,
      ⟨some 36, (.move (.tmp 9)), 3, none⟩,
      ⟨some 37, (.binOp .neq 3 (.tmp 35) (.tmp 36) 3), 4, none⟩,
      ⟨some 38, (.move (.tmp 37)), 4, none⟩,
      ⟨some 39, (.move (.tmp 8)), 28, some (38, false)⟩,
      ⟨some 40, (.move (.tmp 10)), 28, some (38, false)⟩,
      ⟨some 41, (.binOp .neq 28 (.tmp 39) (.tmp 40) 28), 4, some (38, false)⟩,
      ⟨some 42, (.pick (.tmp 38) (.const (.bool true)) (.tmp 41)), 4, none⟩])
    (.cond (.tmp 42)
    (.seq (.reg [] [⟨some 6, (.assign (.const (.bool false))), 4, none⟩])
    .ret)
    .skip))
    (.seq (.reg [] [⟨some 44, (.move (.tmp 0)), 3, none⟩,
      ⟨some 45, (.move (.tmp 1)), 22, none⟩,
      ⟨some 46, (.call ⟨(.value (.func 30)), #[(.tmp 44), (.tmp 45)], #[3, 22]⟩), 37, none⟩,
      ⟨some 43, (.move (.tmp 46)), 37, none⟩,
      ⟨some 47, (.extract (.tmp 43) 0), 3, none⟩,
      ⟨some 48, (.extract (.tmp 43) 1), 4, none⟩,
      ⟨some 49, (.extract (.tmp 43) 2), 28, none⟩,
      ⟨some 11, (.assign (.tmp 47)), 3, none⟩,
      ⟨some 12, (.assign (.tmp 48)), 4, none⟩,
      ⟨some 13, (.assign (.tmp 49)), 28, none⟩])
    (.seq (.reg [] [⟨some 50, (.move (.tmp 8)), 28, none⟩,
      ⟨some 51, (.binOp .neq 28 (.tmp 50) (.const (.int .i64 0)) 28), 4, none⟩,
      ⟨some 52, (.move (.tmp 51)), 4, none⟩,
      ⟨some 53, (.move (.tmp 13)), 28, some (52, false)⟩,
      ⟨some 54, (.binOp .eql 28 (.tmp 53) (.const (.int .i64 0)) 28), 4, some (52, false)⟩,
      ⟨some 55, (.move (.tmp 54)), 4, some (52, false)⟩,
      ⟨some 56, (.move (.tmp 12)), 4, some (55, true)⟩,
      ⟨some 57, (.pick (.tmp 55) (.tmp 56) (.const (.bool false))), 4, some (52, false)⟩,
      ⟨some 58, (.move (.tmp 57)), 4, some (52, false)⟩,
      ⟨some 59, (.move (.tmp 11)), 3, some (58, true)⟩,
      ⟨some 60, (.move (.tmp 7)), 3, some (58, true)⟩,
      ⟨some 61, (.binOp .leq 3 (.tmp 59) (.tmp 60) 3), 4, some (58, true)⟩,
      ⟨some 62, (.pick (.tmp 58) (.tmp 61) (.const (.bool false))), 4, some (52, false)⟩,
      ⟨some 63, (.pick (.tmp 52) (.const (.bool true)) (.tmp 62)), 4, none⟩,
      ⟨some 64, (.move (.tmp 63)), 4, none⟩,
      ⟨some 65, (.call ⟨(.value (.func 13)), #[], #[]⟩), 4, some (64, true)⟩,
      ⟨some 66, (.pick (.tmp 64) (.tmp 65) (.const (.bool false))), 4, none⟩,
      ⟨some 6, (.assign (.tmp 66)), 4, none⟩])
    .ret)))))))
theorem C7 {args : List AV} {r : AV} (hn : args.length ≤ 67) (h : vc Tryz.prog T [] A7 (Fin T [(.tmp 6)] r) ⟨envOf 0 args, []⟩) : CallP Tryz.prog 7 args r :=
  callP_of tok mixed Tryz.func7 (by kernel_rfl) (by kernel_rfl) (by kernel_rfl : Tryz.f7.ntmps = 67) (by kernel_rfl : Tryz.f7.body.bind (strip 67 (fun _ => [])) = some A7) hn h

end Go.Proofs.YtgfgkfkplidncaaGreat
end

section
/- Contracts: where sets end in an order; marks. -/
namespace Go.Proofs.YtgfgkfkplidncaaGreat
open Go.Abs Go
set_option maxRecDepth 20000
set_option maxHeartbeats 2000000
attribute [local irreducible] PreK CondK CallK CallG CallX LoopK
attribute [local simp] avsEq avEq akind teq vkind vEq

theorem pos_bnd (o : List Int) (s : Int) : -1 ≤ posO o s ∧ posO o s < o.length := by
  unfold posO
  by_cases h : s ∈ o
  · obtain ⟨a, b, rfl, ha⟩ := split_at h
    rw [idxF_at a b 0 ha]
    simp only [List.length_append, List.length_cons]
    omega
  · rw [idxF_none o 0 h]
    omega
theorem CT79 {args : List AV} {sz : Nat} {els : List AV} {u : Value} (hn : args.length ≤ 51) (hu : u.oneCell' = true) (h : vc Tryz.prog T [] A79 (FinT [(.tmp 4), (.tmp 5)] sz els u) ⟨envOf 0 args, []⟩) : CallT Tryz.prog 79 args sz els u :=
  callT_of tok mixed Tryz.func79 (by kernel_rfl) (by kernel_rfl) (by kernel_rfl : Tryz.f79.ntmps = 51) (by kernel_rfl : Tryz.f79.body.bind (strip 51 (fun _ => [])) = some A79) hn hu h
theorem CallT.toP {P : Program} {f : FuncId} {args : List AV} {sz : Nat} {els : List AV} {u : Value} (h : CallT P f args sz els u) : CallP P f args (.tup [.seq sz els false, .raw u]) := by
  refine ⟨h.1, fun w X vs hX hlen hargs => Calls.mono (h.2.2 w X vs hX hlen hargs) ?_⟩
  rintro e w' ⟨v, rfl, hg, ho⟩
  have hseq : Rep w' X Mu.none (.seq sz els false) v := by
    rcases ho with ⟨rfl, p, rfl⟩ | ⟨g, base, cap, c, el, rfl, _, hge, hw, hcap, hfit, hbig, h1, hr⟩
    · exact .nil
    · have hx : ¬ X g := fun hx => by have := hX g hx; omega
      have hm : els.length * sz ≤ cap * sz := Nat.mul_le_mul_right _ hcap
      refine .seq hx hw hcap (fun h => by cases h) hbig (by omega) (fun i hi => (hr i hi).1) (fun j _ hj => h1 j (by omega)) fun i hi => ?_
      exact (hr i hi).2.mono (fun q hq _ => ⟨fun hy => hq (.inl hy), rfl⟩) (Mu.later.refl _)
  refine ⟨_, rfl, hg, .tup rfl fun i hi => ?_⟩
  match i, hi with
  | 0, _ => exact hseq
  | 1, _ => exact .raw h.2.1
theorem ends_t (f : List (List Int)) (o : List Int) (hf : Sm f) (ho : o.length ≤ 100) : CallT Tryz.prog 79 [tabV f, ints o] 1 ((if fitsM o f then lastsM o f else []).map iv) (.bool (fitsM o f)) := by
  refine CT79 (by simp) rfl ?_
  have hn := hf.num
  generalize hF : fitsM o f = F
  generalize hL : lastsM o f = L
  simp [A79]
  refine LoopK.by (ι := Nat × Nat × List Int) (fun x => ⟨[(16, iv x.1), (15, iv f.length), (14, tabV f), (6, .sl 6 x.2.1 0 x.2.2.length), (1, ints o)], [(6, some ⟨1, x.2.2.map iv, x.2.1, false⟩)]⟩) (fun x => f.length - x.1)
    (fun x => x.1 ≤ f.length ∧ x.2.2.length = x.1 ∧ x.2.2 ++ lastsM o (f.drop x.1) = L ∧ fitsM o (f.drop x.1) = F) (0, 1, []) ⟨Nat.zero_le _, rfl, by simpa using hL, by simpa using hF⟩ (by simp) ?_
  intro ⟨i, ver, acc⟩ Q' ⟨hi, hal, hc, hc2⟩ hq he hr
  dsimp only at hi hal hc hc2
  try simp 
  refine CondK.intro (fun h1 => ?_) (fun h1 => ?_)
  · simp at h1
    have hel := hf.el i
    rw [drop_cons f i h1] at hc hc2
    rw [show fitsM o (el f i :: f.drop (i + 1)) = (fit1 o (el f i) && fitsM o (f.drop (i + 1))) from rfl] at hc2
    rw [show lastsM o (el f i :: f.drop (i + 1)) = (edges o (el f i)).2 :: lastsM o (f.drop (i + 1)) from rfl] at hc
    unfold fit1 at hc2
    have hE : flP o (el f i) (o.length, -1) = edges o (el f i) := rfl
    generalize edges o (el f i) = E at hc hc2 hE
    try simp [h1]
    repeat (refine PreK.intro (by first | omega | (intros; first | omega | (refine ⟨by omega, ?_⟩; simp_all; done) | (simp_all; done) | (simp_all; omega))) fun _ => ?_; (try simp [h1]))
    refine LoopK.by (ι := Nat × Int × Int) (fun x => ⟨[(24, iv x.1), (23, iv (el f i).length), (22, ints (el f i)), (9, iv x.2.1), (10, iv x.2.2), (8, ints (el f i)), (16, iv i), (15, iv f.length), (14, tabV f), (6, .sl 6 ver 0 acc.length), (1, ints o)], [(6, some ⟨1, acc.map iv, ver, false⟩)]⟩) (fun x => (el f i).length - x.1)
      (fun x => x.1 ≤ (el f i).length ∧ (-1 ≤ x.2.1 ∧ x.2.1 ≤ 100) ∧ (-1 ≤ x.2.2 ∧ x.2.2 ≤ 100) ∧ flP o ((el f i).drop x.1) (x.2.1, x.2.2) = E) (0, (o.length : Int), -1) ⟨Nat.zero_le _, by dsimp only; omega, by dsimp only; omega, by simpa using hE⟩ (by simp) ?_
    intro ⟨k, a, b⟩ Q2 ⟨hk, ha, hb, hc3⟩ hq2 he2 hr2
    dsimp only at hk ha hb hc3
    try simp 
    refine CondK.intro (fun h2 => ?_) (fun h2 => ?_)
    · simp at h2
      have hix := index_c o (el (el f i) k) (sbig (by omega))
      have hpb := pos_bnd o (el (el f i) k)
      rw [drop_cons (el f i) k h2, flP] at hc3
      dsimp only at hc3
      rw [show idxF (fun x => decide (el (el f i) k = x)) 0 o = posO o (el (el f i) k) from rfl] at hix
      generalize posO o (el (el f i) k) = p at hix hpb hc3
      try simp [h2]
      repeat (refine PreK.intro (by first | omega | (intros; first | omega | (refine ⟨by omega, ?_⟩; simp_all; done) | (simp_all; done) | (simp_all; omega))) fun _ => ?_; (try simp [h2]))
      try simp [h2]
      repeat' (first
        | (refine CallX.pure (hix) (by simp) (by simp) ?_; try simp [h2])
        | (refine CallK.intro (hix) (by simp) (by simp) ?_; try simp [h2])
        | (refine CallG.intro (fun _ => hix) (by simp) (by simp) ?_; try simp [h2])
        | ((with_reducible refine PreK.intro ?_ ?_); (next => (first | omega | (intros; first | omega | (refine ⟨by omega, ?_⟩; repeat (first | assumption | constructor)) | assumption))); intro _; try simp [h2])
        | fail)
      repeat (refine PreK.intro (by first | omega | (intros; first | omega | (refine ⟨by omega, ?_⟩; simp_all; done) | (simp_all; done) | (simp_all; omega))) fun _ => ?_; (try simp ))
      have e1 : min a p = if p < a then p else a := by split <;> omega
      have e2 : max b p = if b < p then p else b := by split <;> omega
      rw [e1, e2] at hc3
      exact hq2 (k + 1, (if p < a then p else a), (if b < p then p else b)) _ ⟨by dsimp only; omega, by dsimp only; split <;> omega, by dsimp only; split <;> omega, hc3⟩ (by dsimp only; omega) (by simp)
    · simp at h2
      rw [List.drop_eq_nil_of_le (by omega), flP] at hc3
      subst hc3
      dsimp only at hc hc2
      try simp 
      apply he2
      repeat (refine PreK.intro (by first | omega | (intros; first | omega | (refine ⟨by omega, ?_⟩; simp_all; done) | (simp_all; done) | (simp_all; omega))) fun _ => ?_; (try simp ))
      refine CondK.intro (fun h3 => ?_) (fun h3 => ?_)
      · simp at h3
        have : F = false := by rw [← hc2]; simp [h3]
        subst this
        try simp 
        apply hr
        try simp 
        repeat (refine PreK.intro (by first | omega | (intros; first | omega | (refine ⟨by omega, ?_⟩; simp_all; done) | (simp_all; done) | (simp_all; omega))) fun _ => ?_; (try simp ))
      · simp at h3
        have : fitsM o (f.drop (i + 1)) = F := by rw [← hc2]; simp [h3]
        repeat (refine PreK.intro (by first | omega | (intros; first | omega | (refine ⟨by omega, ?_⟩; simp_all; done) | (simp_all; done) | (simp_all; omega))) fun _ => ?_; (try simp ))
        exact hq (i + 1, ver + 1, acc ++ [b]) _ ⟨by dsimp only; omega, by simp; omega, by simpa using hc, this⟩ (by dsimp only; omega) (by simp)
  · simp at h1
    rw [List.drop_eq_nil_of_le (by omega)] at hc hc2
    have h3 : F = true := by rw [← hc2]; rfl
    simp only [lastsM, List.map_nil, List.append_nil] at hc
    subst hc h3
    try simp 
    apply he
    try simp 
    repeat (refine PreK.intro (by first | omega | (intros; first | omega | (refine ⟨by omega, ?_⟩; simp_all; done) | (simp_all; done) | (simp_all; omega))) fun _ => ?_; (try simp ))
theorem ends_c (f : List (List Int)) (o : List Int) (hf : Sm f) (ho : o.length ≤ 100) : CallP Tryz.prog 79 [tabV f, ints o] (.tup [ints (if fitsM o f then lastsM o f else []), bv (fitsM o f)]) := CallT.toP (ends_t f o hf ho)
theorem rends_c (o set : List Int) (ho : o.length ≤ 100) (hs : set.length ≤ 100) : CallP Tryz.prog 97 [ints o, ints set] (.tup [iv (flR set 0 o (-1, -1)).1, iv (flR set 0 o (-1, -1)).2]) := by
  refine C97 (by simp) ?_
  generalize hR : flR set 0 o (-1, -1) = R
  simp [A97]
  refine LoopK.by (ι := Nat × Int × Int) (fun x => ⟨[(8, iv x.1), (6, iv x.2.1), (7, iv x.2.2), (0, ints o), (1, ints set)], []⟩) (fun x => o.length - x.1) (fun x => x.1 ≤ o.length ∧ flR set x.1 (o.drop x.1) (x.2.1, x.2.2) = R) (0, -1, -1) ⟨Nat.zero_le _, by simpa using hR⟩ (by simp) ?_
  intro ⟨i, a, b⟩ Q' ⟨hi, hc⟩ hq he hr
  dsimp only at hi hc
  try simp 
  refine CondK.intro (fun h1 => ?_) (fun h1 => ?_)
  · simp at h1
    have hh := has1_c set (el o i) (sbig (by omega))
    rw [drop_cons o i h1, flR] at hc
    generalize set.contains (el o i) = c at hh hc
    try simp [h1]
    repeat' (first
      | (refine CallX.pure (hh) (by simp) (by simp) ?_; try simp [h1])
      | (refine CallK.intro (hh) (by simp) (by simp) ?_; try simp [h1])
      | (refine CallG.intro (fun _ => hh) (by simp) (by simp) ?_; try simp [h1])
      | ((with_reducible refine PreK.intro ?_ ?_); (next => (first | omega | (intros; first | omega | (refine ⟨by omega, ?_⟩; repeat (first | assumption | constructor)) | assumption))); intro _; try simp [h1])
      | fail)
    cases c with
    | true =>
      simp only [if_true] at hc
      refine CondK.tt ?_
      try simp 
      repeat (refine PreK.intro (by first | omega | (intros; first | omega | (refine ⟨by omega, ?_⟩; simp_all; done) | (simp_all; done) | (simp_all; omega))) fun _ => ?_; (try simp ))
      refine CondK.intro (fun h2 => ?_) (fun h2 => ?_)
      · simp at h2
        rw [if_pos h2] at hc
        repeat (refine PreK.intro (by first | omega | (intros; first | omega | (refine ⟨by omega, ?_⟩; simp_all; done) | (simp_all; done) | (simp_all; omega))) fun _ => ?_; (try simp ))
        exact hq (i + 1, (i : Int), (i : Int)) _ ⟨by dsimp only; omega, hc⟩ (by dsimp only; omega) (by simp)
      · simp at h2
        rw [if_neg (by omega)] at hc
        repeat (refine PreK.intro (by first | omega | (intros; first | omega | (refine ⟨by omega, ?_⟩; simp_all; done) | (simp_all; done) | (simp_all; omega))) fun _ => ?_; (try simp ))
        exact hq (i + 1, a, (i : Int)) _ ⟨by dsimp only; omega, hc⟩ (by dsimp only; omega) (by simp)
    | false =>
      simp only [Bool.false_eq_true, if_false] at hc
      refine CondK.ff ?_
      try simp 
      repeat (refine PreK.intro (by first | omega | (intros; first | omega | (refine ⟨by omega, ?_⟩; simp_all; done) | (simp_all; done) | (simp_all; omega))) fun _ => ?_; (try simp ))
      exact hq (i + 1, a, b) _ ⟨by dsimp only; omega, hc⟩ (by dsimp only; omega) (by simp)
  · simp at h1
    rw [List.drop_eq_nil_of_le (by omega), flR] at hc
    subst hc
    try simp 
    apply he
    repeat (refine PreK.intro (by first | omega | (intros; first | omega | (refine ⟨by omega, ?_⟩; simp_all; done) | (simp_all; done) | (simp_all; omega))) fun _ => ?_; (try simp ))
def marksP (f : List (List Int)) (o : List Int) : List Int := if fitsM o f then marksM o f else [(o.length : Int) - 1]
theorem marks_c (f : List (List Int)) (o : List Int) (hf : Sm f) (ho : o.length ≤ 100) : CallP Tryz.prog 71 [tabV f, ints o] (.tup [ints (marksP f o), bv (fitsM o f)]) := by
  refine C71 (by simp) ?_
  have hn := hf.num
  have hec := ends_t f o hf ho
  have hl : (if fitsM o f = true then lastsM o f else []).length ≤ 50 := by
    split
    · simp [lastsM]; exact hn
    · simp
  have hmp : marksP f o = compI (sortI ((if fitsM o f = true then lastsM o f else []) ++ [(o.length : Int) - 1])) := by
    unfold marksP marksM
    split
    · rfl
    · have : sortI ([] ++ [(o.length : Int) - 1]) = [(o.length : Int) - 1] := sortI_eq (List.Perm.refl _) (by simp)
      rw [this]; rfl
  rw [hmp]
  generalize (if fitsM o f = true then lastsM o f else []) = l at *
  generalize fitsM o f = F at *
  have hs1 := sortI_L (l ++ [(o.length : Int) - 1])
  have hsl := sortI_len (l ++ [(o.length : Int) - 1])
  generalize sortI (l ++ [(o.length : Int) - 1]) = s at hs1 hsl ⊢
  simp only [List.length_append, List.length_cons, List.length_nil] at hsl
  have hs2 := Compact_L s (by omega)
  have hcn := compI_num s
  generalize compI s = u at hs2 hcn ⊢
  simp [A71]
  refine CallX.two (by simpa using hec) (by simp) ?_
  repeat (refine PreK.intro (by first | omega | (intros; first | omega | (refine ⟨by omega, ?_⟩; simp_all; done) | (simp_all; done) | (simp_all; omega))) fun _ => ?_; (try simp ))
  refine CallX.lend [] (id := 11) (ver := 2) (n := l.length + 1) (b := ⟨1, (l ++ [(o.length : Int) - 1]).map iv, 2, false⟩) [] (.val (.tup [])) _ (by simp) (by simp) (by simp) (by simp) (by simp) (by simp) (by simp) (by simpa using hs1) ?_
  try simp 
  refine CallX.lend [] (id := 11) (ver := 2) (n := l.length + 1) (b := ⟨1, s.map iv, 2, false⟩) [] (.part u.length) _ (by simp) (by simp) (by simp) (by simp) (by simp [hsl]) (by simp) (by simp) (by simpa using hs2) ?_
  repeat (refine PreK.intro (by first | omega | (intros; first | omega | (refine ⟨by omega, ?_⟩; simp_all; done) | (simp_all; done) | (simp_all; omega))) fun _ => ?_; (try simp [hsl]))
theorem rfits_c (f : List (List Int)) (o : List Int) (n : Nat) (hf : FamOK n f) (ho : OrdOK n o) : CallP Tryz.prog 65 [tabV f, ints o] (bv (fitsM o f)) := by
  refine C65 (by simp) ?_
  have hn := hf.num
  have hhi := hf.hi
  have hol := ho.len
  generalize hF : fitsM o f = F
  simp [A65]
  refine LoopK.by (fun i : Nat => ⟨[(5, iv i), (0, tabV f), (1, ints o)], []⟩) (fun i => f.length - i) (fun i => i ≤ f.length ∧ fitsM o (f.drop i) = F) 0 (by simpa using hF) (by simp) ?_
  intro i Q' ⟨hi, hc⟩ hq he hr
  try simp 
  refine CondK.intro (fun h1 => ?_) (fun h1 => ?_)
  · simp at h1
    have hm := el_mem_of f i h1
    have hsl : (el f i).length ≤ n := by
      have := nodup_le (pairwise_lt_nodup (hf.up _ hm)) fun x hx => mem_ids.2 (hf.val _ hm x hx)
      rwa [ids_len] at this
    have hre := rends_c o (el f i) (by omega) (by omega)
    rw [edges_eq ho (hf.ne _ hm) (hf.val _ hm)] at hre
    have hok := edges_ok ho (hf.ne _ hm) (hf.val _ hm)
    rw [drop_cons f i h1, show fitsM o (el f i :: f.drop (i + 1)) = (fit1 o (el f i) && fitsM o (f.drop (i + 1))) from rfl] at hc
    unfold fit1 at hc
    generalize edges o (el f i) = E at hc hre hok
    obtain ⟨a, b⟩ := E
    obtain ⟨p, hp, e1⟩ := hok.fst
    obtain ⟨q, hq', e2⟩ := hok.lst
    have hpl := hp.1
    have hql := hq'.1
    dsimp only at hc hre e1 e2
    clear hok hp hq'
    try simp [h1]
    repeat (refine PreK.intro (by first | omega | (intros; first | omega | (refine ⟨by omega, ?_⟩; simp_all; done) | (simp_all; done) | (simp_all; omega))) fun _ => ?_; (try simp [h1]))
    try simp [h1]
    repeat' (first
      | (refine CallX.pure (hre) (by simp) (by simp) ?_; try simp [h1])
      | (refine CallK.intro (hre) (by simp) (by simp) ?_; try simp [h1])
      | (refine CallG.intro (fun _ => hre) (by simp) (by simp) ?_; try simp [h1])
      | ((with_reducible refine PreK.intro ?_ ?_); (next => (first | omega | (intros; first | omega | (refine ⟨by omega, ?_⟩; repeat (first | assumption | constructor)) | assumption))); intro _; try simp [h1])
      | fail)
    try simp [h1]
    repeat (refine PreK.intro (by first | omega | (intros; first | omega | (refine ⟨by omega, ?_⟩; simp_all; done) | (simp_all; done) | (simp_all; omega))) fun _ => ?_; (try simp [h1]))
    refine CondK.intro (fun h3 => ?_) (fun h3 => ?_)
    · simp at h3
      have : F = false := by rw [← hc]; simp [h3]
      subst this
      try simp 
      apply hr
      repeat (refine PreK.intro (by first | omega | (intros; first | omega | (refine ⟨by omega, ?_⟩; simp_all; done) | (simp_all; done) | (simp_all; omega))) fun _ => ?_; (try simp ))
    · simp at h3
      have : fitsM o (f.drop (i + 1)) = F := by rw [← hc]; simp [h3]
      repeat (refine PreK.intro (by first | omega | (intros; first | omega | (refine ⟨by omega, ?_⟩; simp_all; done) | (simp_all; done) | (simp_all; omega))) fun _ => ?_; (try simp ))
      exact hq (i + 1) _ ⟨by omega, this⟩ (by omega) (by simp)
  · simp at h1
    rw [List.drop_eq_nil_of_le (by omega)] at hc
    have h3 : F = true := by rw [← hc]; rfl
    subst h3
    try simp 
    apply he
    repeat (refine PreK.intro (by first | omega | (intros; first | omega | (refine ⟨by omega, ?_⟩; simp_all; done) | (simp_all; done) | (simp_all; omega))) fun _ => ?_; (try simp ))
theorem rmarks_c (f : List (List Int)) (o : List Int) (n : Nat) (hf : FamOK n f) (ho : OrdOK n o) : CallP Tryz.prog 66 [tabV f, ints o] (iv (marksN o f)) := by
  refine C66 (by simp) ?_
  have hn := hf.num
  have hhi := hf.hi
  have hol := ho.len
  rw [marks_count ho hf.lo hf.ne hf.val]
  simp [A66]
  refine LoopK.by (ι := Nat) (fun i => ⟨[(6, iv i), (5, iv ((List.range i).filter (markB o f)).length), (0, tabV f), (1, ints o)], []⟩) (fun i => o.length - i) (fun i => i ≤ o.length) 0 (Nat.zero_le _) (by simp) ?_
  intro i Q' hi hq he hr
  have hfl : ((List.range i).filter (markB o f)).length ≤ i := by
    have := List.length_filter_le (markB o f) (List.range i)
    simpa using this
  try simp 
  refine CondK.intro (fun h1 => ?_) (fun h1 => ?_)
  · simp at h1
    have hnext : ((List.range (i + 1)).filter (markB o f)).length = ((List.range i).filter (markB o f)).length + (if markB o f i then 1 else 0) := by
      rw [List.range_succ, List.filter_append, List.length_append]
      congr 1
      by_cases h : markB o f i <;> simp [h]
    generalize hB : markB o f i = B at hnext
    unfold markB at hB
    repeat (refine PreK.intro (by first | omega | (intros; first | omega | (refine ⟨by omega, ?_⟩; simp_all; done) | (simp_all; done) | (simp_all; omega))) fun _ => ?_; (try simp ))
    refine LoopK.by (ι := Nat × Bool) (fun x => ⟨[(8, iv x.1), (7, bv x.2), (6, iv i), (5, iv ((List.range i).filter (markB o f)).length), (0, tabV f), (1, ints o)], []⟩) (fun x => f.length - x.1) (fun x => x.1 ≤ f.length ∧ (x.2 || (f.drop x.1).any fun s => decide ((flR s 0 o (-1, -1)).2 = i)) = B) (0, decide ((i : Int) = (o.length : Int) - 1)) ⟨Nat.zero_le _, by simpa using hB⟩ (by simp) ?_
    intro ⟨k, b⟩ Q2 ⟨hk, hc⟩ hq2 he2 hr2
    dsimp only at hk hc
    try simp 
    refine CondK.intro (fun h2 => ?_) (fun h2 => ?_)
    · simp at h2
      have hm := el_mem_of f k h2
      have hsl : (el f k).length ≤ n := by
        have := nodup_le (pairwise_lt_nodup (hf.up _ hm)) fun x hx => mem_ids.2 (hf.val _ hm x hx)
        rwa [ids_len] at this
      have hre := rends_c o (el f k) (by omega) (by omega)
      rw [drop_cons f k h2, List.any_cons] at hc
      generalize flR (el f k) 0 o (-1, -1) = E at hc hre
      obtain ⟨p, q⟩ := E
      dsimp only at hc hre
      try simp [h2]
      repeat (refine PreK.intro (by first | omega | (intros; first | omega | (refine ⟨by omega, ?_⟩; simp_all; done) | (simp_all; done) | (simp_all; omega))) fun _ => ?_; (try simp [h2]))
      try simp [h2]
      repeat' (first
        | (refine CallX.pure (hre) (by simp) (by simp) ?_; try simp [h2])
        | (refine CallK.intro (hre) (by simp) (by simp) ?_; try simp [h2])
        | (refine CallG.intro (fun _ => hre) (by simp) (by simp) ?_; try simp [h2])
        | ((with_reducible refine PreK.intro ?_ ?_); (next => (first | omega | (intros; first | omega | (refine ⟨by omega, ?_⟩; repeat (first | assumption | constructor)) | assumption))); intro _; try simp [h2])
        | fail)
      cases b with
      | true =>
        try simp [h2]
        repeat (refine PreK.intro (by first | omega | (intros; first | omega | (refine ⟨by omega, ?_⟩; simp_all; done) | (simp_all; done) | (simp_all; omega))) fun _ => ?_; (try simp [h2]))
        exact hq2 (k + 1, true) _ ⟨by dsimp only; omega, by simpa using hc⟩ (by dsimp only; omega) (by simp)
      | false =>
        try simp [h2]
        repeat (refine PreK.intro (by first | omega | (intros; first | omega | (refine ⟨by omega, ?_⟩; simp_all; done) | (simp_all; done) | (simp_all; omega))) fun _ => ?_; (try simp [h2]))
        refine hq2 (k + 1, decide (q = i)) _ ⟨by dsimp only; omega, by simpa using hc⟩ (by dsimp only; omega) (by simp)
    · simp at h2
      rw [List.drop_eq_nil_of_le (by omega)] at hc
      simp only [List.any_nil, Bool.or_false] at hc
      subst hc
      try simp 
      apply he2
      cases b with
      | true =>
        try simp 
        repeat (refine PreK.intro (by first | omega | (intros; first | omega | (refine ⟨by omega, ?_⟩; simp_all; done) | (simp_all; done) | (simp_all; omega))) fun _ => ?_; (try simp ))
        refine CondK.tt ?_
        try simp 
        repeat (refine PreK.intro (by first | omega | (intros; first | omega | (refine ⟨by omega, ?_⟩; simp_all; done) | (simp_all; done) | (simp_all; omega))) fun _ => ?_; (try simp ))
        exact hq (i + 1) _ (by omega) (by omega) (by simp [hnext])
      | false =>
        try simp 
        repeat (refine PreK.intro (by first | omega | (intros; first | omega | (refine ⟨by omega, ?_⟩; simp_all; done) | (simp_all; done) | (simp_all; omega))) fun _ => ?_; (try simp ))
        refine CondK.ff ?_
        try simp 
        repeat (refine PreK.intro (by first | omega | (intros; first | omega | (refine ⟨by omega, ?_⟩; simp_all; done) | (simp_all; done) | (simp_all; omega))) fun _ => ?_; (try simp ))
        exact hq (i + 1) _ (by omega) (by omega) (by simp [hnext])
  · simp at h1
    have : i = o.length := by omega
    subst this
    try simp 
    apply he
    repeat (refine PreK.intro (by first | omega | (intros; first | omega | (refine ⟨by omega, ?_⟩; simp_all; done) | (simp_all; done) | (simp_all; omega))) fun _ => ?_; (try simp ))
end Go.Proofs.YtgfgkfkplidncaaGreat
end

section
/- Contracts: the orders told one by one; the first order that a family fits, and the best one. -/
namespace Go.Proofs.YtgfgkfkplidncaaGreat
open Go.Abs Go
set_option maxRecDepth 20000
set_option maxHeartbeats 2000000
attribute [local irreducible] PreK CondK CallK CallG CallX LoopK
attribute [local simp] avsEq avEq akind teq vkind vEq nilOK nilArg nilOf

@[simp] theorem vcOps_nilEqG {P : Program} {T : TT} {O : List Nat} {s : St} {d : Option Nat} {t t' ty : Nat} {x : Operand} {g : Nat × Bool} {l : List AOper} {K : St → Prop} :
    vcOps P T O (⟨d, .binOp .eql t x (.const (.slice none 0 0)) t', ty, some g⟩ :: l) K s = vcOp P T O ⟨d, .binOp .eql t x (.const (.slice none 0 0)) t', ty, some g⟩ s (vcOps P T O l K) := Eq.trans rfl rfl
/-- A variable that is nil or a list that is not empty. -/
def slV (o : List Int) : AV := if o = [] then .raw (.slice none 0 0) else ints o
theorem slV_nil : slV [] = .raw (.slice none 0 0) := rfl
theorem slV_ne {o : List Int} (h : o ≠ []) : slV o = .seq 1 (o.map iv) false := by simp [slV, h]
theorem slV_cases (o : List Int) : slV o = .raw (.slice none 0 0) ∨ slV o = .seq 1 (o.map iv) false := by
  unfold slV; split
  · exact .inl rfl
  · exact .inr rfl
@[simp] theorem refs_slV (o : List Int) : AV.refs (slV o) = [] := by
  rcases slV_cases o with h | h <;> rw [h] <;> rfl
@[simp] theorem renA_slV (f : Nat → Nat → Option (Nat × Nat)) (o : List Int) : renA f (slV o) = slV o := by
  rcases slV_cases o with h | h <;> rw [h] <;> rfl
@[simp] theorem frzA_slV (x : Box) (id : Nat) (o : List Int) : frzA x id (slV o) = slV o := by
  rcases slV_cases o with h | h <;> rw [h] <;> rfl
@[simp] theorem leE_slV (o : List Int) : leE (slV o) (slV o) = True := by
  simp only [leE_refl]
def oP : List AV := [.pt 101 0 0 0, .pt 102 0 0 0]
def oM (f : List (List Int)) (s : List Int) : List (Nat × Option Box) := [(101, some ⟨1, [tabV f], 0, true⟩), (102, some ⟨1, [slV s], 0, true⟩)]
theorem fam_sm {n : Nat} {f : List (List Int)} (h : FamOK n f) : Sm f := by
  have h1 := h.hi
  refine ⟨by have := h.num; omega, fun r hr => ?_⟩
  have := nodup_le (pairwise_lt_nodup (h.up r hr)) fun x hx => mem_ids.2 (h.val r hr x hx)
  rw [ids_len] at this
  omega
theorem ord_ne {n : Nat} {o : List Int} (h0 : 1 ≤ n) (h : OrdOK n o) : o ≠ [] := fun e => by
  have := h.len
  subst e
  simp at this
  omega
theorem order1_b (f : List (List Int)) (n : Nat) (hf : FamOK n f) (s o : List Int) (ho : OrdOK n o) : CallB Tryz.prog 78 (ints o :: oP) (oM f s) (bv (stepO f s o).2) (oM f (stepO f s o).1) := by
  have hec := ends_c f o (fam_sm hf) (by have := ho.len; have := hf.hi; omega)
  have hne := ord_ne hf.lo ho
  refine CB78 (by simp [oP]) (by simp [oM]) ?_
  unfold stepO
  generalize fitsM o f = F at *
  cases F with
  | true =>
    simp only [if_true, hne, decide_false] at hec ⊢
    simp only [oM, slV_ne hne]
    rcases slV_cases s with es | es
    all_goals
      simp only [es]
      simp [A78, oP]
      try simp 
      repeat' (first
        | (refine CallX.pure (hec) (by simp) (by simp) ?_; try simp )
        | (refine CallK.intro (hec) (by simp) (by simp) ?_; try simp )
        | (refine CallG.intro (fun _ => hec) (by simp) (by simp) ?_; try simp )
        | ((with_reducible refine PreK.intro ?_ ?_); (next => (first | omega | (intros; first | omega | (refine ⟨by omega, ?_⟩; repeat (first | assumption | constructor)) | assumption))); intro _; try simp )
        | fail)
      refine CondK.tt ?_
      try simp 
      repeat (refine PreK.intro (by first | omega | (intros; first | omega | (refine ⟨by omega, ?_⟩; simp_all; done) | (simp_all; done) | (simp_all; omega))) fun _ => ?_; (try simp ))
      intro b hb
      have : b = false := by
        cases b with
        | false => rfl
        | true => simp at hb; exact absurd hb hne
      subst this
      repeat (refine PreK.intro (by first | omega | (intros; first | omega | (refine ⟨by omega, ?_⟩; simp_all; done) | (simp_all; done) | (simp_all; omega))) fun _ => ?_; (try simp ))
  | false =>
    simp only [Bool.false_eq_true, if_false] at hec ⊢
    by_cases hs : s = []
    · subst hs
      simp only [oM, slV_nil]
      simp [A78, oP]
      try simp 
      repeat' (first
        | (refine CallX.pure (hec) (by simp) (by simp) ?_; try simp )
        | (refine CallK.intro (hec) (by simp) (by simp) ?_; try simp )
        | (refine CallG.intro (fun _ => hec) (by simp) (by simp) ?_; try simp )
        | ((with_reducible refine PreK.intro ?_ ?_); (next => (first | omega | (intros; first | omega | (refine ⟨by omega, ?_⟩; repeat (first | assumption | constructor)) | assumption))); intro _; try simp )
        | fail)
      refine CondK.ff ?_
      try simp 
      repeat (refine PreK.intro (by first | omega | (intros; first | omega | (refine ⟨by omega, ?_⟩; simp_all; done) | (simp_all; done) | (simp_all; omega))) fun _ => ?_; (try simp ))
      intro b hb
      simp at hb
      subst hb
      repeat (refine PreK.intro (by first | omega | (intros; first | omega | (refine ⟨by omega, ?_⟩; simp_all; done) | (simp_all; done) | (simp_all; omega))) fun _ => ?_; (try simp ))
    · simp only [oM, slV_ne hs]
      simp [A78, oP]
      try simp 
      repeat' (first
        | (refine CallX.pure (hec) (by simp) (by simp) ?_; try simp )
        | (refine CallK.intro (hec) (by simp) (by simp) ?_; try simp )
        | (refine CallG.intro (fun _ => hec) (by simp) (by simp) ?_; try simp )
        | ((with_reducible refine PreK.intro ?_ ?_); (next => (first | omega | (intros; first | omega | (refine ⟨by omega, ?_⟩; repeat (first | assumption | constructor)) | assumption))); intro _; try simp )
        | fail)
      refine CondK.ff ?_
      try simp 
      repeat (refine PreK.intro (by first | omega | (intros; first | omega | (refine ⟨by omega, ?_⟩; simp_all; done) | (simp_all; done) | (simp_all; omega))) fun _ => ?_; (try simp ))
      intro b hb
      have : b = false := by
        cases b with
        | false => rfl
        | true => simp at hb; exact absurd hb hs
      subst this
      simp [hs]

/-- What comes of a beginning by the sounds from i on. -/
def restF (n m : Nat) (b : List Int) (i : Nat) : List (List Int) := ((((idsN n).drop i).filter fun s => !b.contains s).map fun s => b ++ [s]).flatMap (ordF n m)
theorem restF_zero (n m : Nat) (b : List Int) : restF n m b 0 = ordF n (m + 1) b := by simp [restF, ordF, kidsO]
theorem restF_in {n m : Nat} {b : List Int} {i : Nat} (h : i < n) (hc : b.contains (i : Int) = true) : restF n m b i = restF n m b (i + 1) := by
  unfold restF
  rw [drop_cons _ i (by rw [ids_len]; exact h), el_ids h, List.filter_cons_of_neg (by simp only [hc]; simp)]
theorem restF_out {n m : Nat} {b : List Int} {i : Nat} (h : i < n) (hc : b.contains (i : Int) = false) : restF n m b i = ordF n m (b ++ [(i : Int)]) ++ restF n m b (i + 1) := by
  unfold restF
  rw [drop_cons _ i (by rw [ids_len]; exact h), el_ids h, List.filter_cons_of_pos (by simp only [hc]; simp), List.map_cons, List.flatMap_cons]
theorem restF_end {n m : Nat} {b : List Int} {i : Nat} (h : n ≤ i) : restF n m b i = [] := by
  unfold restF
  rw [List.drop_eq_nil_of_le (by rw [ids_len]; exact h)]
  rfl
theorem runT_one {σ : Type} (step : σ → List Int → σ × Bool) (s : σ) (o : List Int) : runT step s [o] = step s o := by
  rw [runT, runT]
  by_cases h : (step s o).2 = true
  · rw [if_pos h]; exact Prod.ext rfl h.symm
  · rw [if_neg h]; exact Prod.ext rfl (by simpa using h)
def anyI (_ : List Int) : Prop := True
theorem anyI_run (f : List (List Int)) (l : List (List Int)) (s : List Int) (_ : anyI s) : anyI (runT (stepO f) s l).1 := trivial
theorem orders1_b (f : List (List Int)) (n : Nat) (hf : FamOK n f) : ∀ (m : Nat) (b : List Int) (s : List Int), anyI s → b.Nodup → (∀ x ∈ b, 0 ≤ x ∧ x < n) → b.length + m = n →
    CallB Tryz.prog 77 [iv n, ints b, .fn 78 [] oP] (oM f s) (bv (runT (stepO f) s (ordF n m b)).2) (oM f (runT (stepO f) s (ordF n m b)).1)
  | 0, b, s, hs, h1, h2, h3 => by
    have ho : OrdOK n b := ordOK_of_perm (perm_of_sub h1 (fun x hx => mem_ids.2 (h2 x hx)) (by rw [ids_len]; omega)).symm
    have hd := order1_b f n hf s b ho
    have eR : runT (stepO f) s (ordF n 0 b) = stepO f s b := runT_one _ _ _
    rw [eR]
    generalize stepO f s b = R at hd
    obtain ⟨s2, r⟩ := R
    dsimp only at hd ⊢
    have hbl : (b.length : Int) = n := by omega
    refine CB77 (by simp [oP]) (by simp [oM]) ?_
    simp only [oM, oP] at hd
    simp [A77, oP, oM, hbl]
    refine CondK.tt ?_
    try simp 
    repeat (refine PreK.intro (by first | omega | (intros; first | omega | (refine ⟨by omega, ?_⟩; simp_all; done) | (simp_all; done) | (simp_all; omega))) fun _ => ?_; (try simp ))
    refine CallX.boxes [(101, 0, 101), (102, 0, 102)] (by simp) (by simpa using hd) ?_
    repeat (refine PreK.intro (by first | omega | (intros; first | omega | (refine ⟨by omega, ?_⟩; simp_all; done) | (simp_all; done) | (simp_all; omega))) fun _ => ?_; (try simp ))
  | m + 1, b, s, hs, h1, h2, h3 => by
    have hhi := hf.hi
    have hbl : ¬ (b.length : Int) = n := by omega
    refine CB77 (by simp [oP]) (by simp [oM]) ?_
    rw [← restF_zero]
    generalize hR : runT (stepO f) s (restF n m b 0) = R
    simp [A77, oP, oM, hbl]
    refine CondK.ff ?_
    try simp 
    repeat (refine PreK.intro (by first | omega | (intros; first | omega | (refine ⟨by omega, ?_⟩; simp_all; done) | (simp_all; done) | (simp_all; omega))) fun _ => ?_; (try simp ))
    refine LoopK.by (ι := Nat × List Int) (fun x => ⟨[(16, iv x.1), (15, iv n), (0, iv n), (1, ints b), (2, .fn 78 [] oP)], oM f x.2⟩) (fun x => n - x.1) (fun x => x.1 ≤ n ∧ anyI x.2 ∧ runT (stepO f) x.2 (restF n m b x.1) = R) (0, s) ⟨Nat.zero_le _, hs, hR⟩ (by simp [oM, oP]) ?_
    intro ⟨i, s1⟩ Q' ⟨hi, hs1, hc⟩ hq he hr
    dsimp only at hi hs1 hc
    simp only [oM, oP]
    try simp 
    refine CondK.intro (fun h4 => ?_) (fun h4 => ?_)
    · simp at h4
      have hcn := contains_c b i (sbig (by omega))
      rw [any_contains] at hcn
      have hin := anyI_run f (ordF n m (b ++ [(i : Int)])) s1 hs1
      have hrec := orders1_b f n hf m (b ++ [(i : Int)]) s1 hs1
      have hout := restF_out (n := n) (m := m) (b := b) h4
      have hinn := restF_in (n := n) (m := m) (b := b) h4
      have hmem : b.contains (i : Int) = false → (i : Int) ∉ b := fun h hm => by rw [List.contains_iff_mem.2 hm] at h; cases h
      have hclo := clone_o b (by omega)
      generalize b.contains (i : Int) = cb at *
      try simp 
      repeat' (first
        | (refine CallX.pure (hcn) (by simp) (by simp) ?_; try simp )
        | (refine CallK.intro (hcn) (by simp) (by simp) ?_; try simp )
        | (refine CallG.intro (fun _ => hcn) (by simp) (by simp) ?_; try simp )
        | ((with_reducible refine PreK.intro ?_ ?_); (next => (first | omega | (intros; first | omega | (refine ⟨by omega, ?_⟩; repeat (first | assumption | constructor)) | assumption))); intro _; try simp )
        | fail)
      cases cb with
      | true =>
        rw [hinn rfl] at hc
        try simp 
        repeat (refine PreK.intro (by first | omega | (intros; first | omega | (refine ⟨by omega, ?_⟩; simp_all; done) | (simp_all; done) | (simp_all; omega))) fun _ => ?_; (try simp ))
        refine CallG.intro (r := (.seq 1 [] false)) (fun hh => by cases hh) (by simp) (by simp) ?_
        try simp 
        try simp 
        repeat (refine PreK.intro (by first | omega | (intros; first | omega | (refine ⟨by omega, ?_⟩; simp_all; done) | (simp_all; done) | (simp_all; omega))) fun _ => ?_; (try simp ))
        refine CallG.intro (r := (bv true)) (fun hh => by cases hh) (by simp) (by simp) ?_
        try simp 
        try simp 
        repeat (refine PreK.intro (by first | omega | (intros; first | omega | (refine ⟨by omega, ?_⟩; simp_all; done) | (simp_all; done) | (simp_all; omega))) fun _ => ?_; (try simp ))
        refine CondK.ff ?_
        try simp 
        repeat (refine PreK.intro (by first | omega | (intros; first | omega | (refine ⟨by omega, ?_⟩; simp_all; done) | (simp_all; done) | (simp_all; omega))) fun _ => ?_; (try simp ))
        exact hq (i + 1, s1) _ ⟨by dsimp only; omega, hs1, hc⟩ (by dsimp only; omega) (by simp [oM, oP])
      | false =>
        rw [hout rfl, runT_append] at hc
        have hni := hmem rfl
        have hd := hrec (by rw [List.nodup_append]; exact ⟨h1, by simp, fun x hx y hy e => by simp only [List.mem_singleton] at hy; subst hy; subst e; exact hni hx⟩) (fun x hx => by
          rcases List.mem_append.1 hx with hx | hx
          · exact h2 x hx
          · simp only [List.mem_singleton] at hx; subst hx; omega) (by simp; omega)
        generalize runT (stepO f) s1 (ordF n m (b ++ [(i : Int)])) = R1 at hd hc hin
        obtain ⟨s2, r⟩ := R1
        dsimp only at hd hc hin
        simp only [oM, oP] at hd
        try simp 
        repeat (refine PreK.intro (by first | omega | (intros; first | omega | (refine ⟨by omega, ?_⟩; simp_all; done) | (simp_all; done) | (simp_all; omega))) fun _ => ?_; (try simp ))
        refine CallG.made ?_
        refine CallX.own (by simpa using hclo) (by simp) (by simp) ?_
        try simp 
        repeat (refine PreK.intro (by first | omega | (intros; first | omega | (refine ⟨by omega, ?_⟩; simp_all; done) | (simp_all; done) | (simp_all; omega))) fun _ => ?_; (try simp ))
        refine CallG.made ?_
        refine CallX.frz 26 (b := ⟨1, b.map iv ++ [iv i], 2, false⟩) (by simp) (by simp) ?_
        refine CallX.boxes [(101, 0, 101), (102, 0, 102)] (by simp) (by simpa [take_map_one] using hd) ?_
        try simp 
        repeat (refine PreK.intro (by first | omega | (intros; first | omega | (refine ⟨by omega, ?_⟩; simp_all; done) | (simp_all; done) | (simp_all; omega))) fun _ => ?_; (try simp ))
        cases r with
        | true =>
          simp only [if_true] at hc
          try simp 
          repeat (refine PreK.intro (by first | omega | (intros; first | omega | (refine ⟨by omega, ?_⟩; simp_all; done) | (simp_all; done) | (simp_all; omega))) fun _ => ?_; (try simp ))
          refine CondK.ff ?_
          try simp 
          repeat (refine PreK.intro (by first | omega | (intros; first | omega | (refine ⟨by omega, ?_⟩; simp_all; done) | (simp_all; done) | (simp_all; omega))) fun _ => ?_; (try simp ))
          exact hq (i + 1, s2) _ ⟨by dsimp only; omega, hin, hc⟩ (by dsimp only; omega) (by simp [oM, oP])
        | false =>
          simp only [Bool.false_eq_true, if_false] at hc
          subst hc
          try simp 
          repeat (refine PreK.intro (by first | omega | (intros; first | omega | (refine ⟨by omega, ?_⟩; simp_all; done) | (simp_all; done) | (simp_all; omega))) fun _ => ?_; (try simp ))
          refine CondK.tt ?_
          try simp 
          repeat (refine PreK.intro (by first | omega | (intros; first | omega | (refine ⟨by omega, ?_⟩; simp_all; done) | (simp_all; done) | (simp_all; omega))) fun _ => ?_; (try simp ))
          apply hr
          try simp 
          repeat (refine PreK.intro (by first | omega | (intros; first | omega | (refine ⟨by omega, ?_⟩; simp_all; done) | (simp_all; done) | (simp_all; omega))) fun _ => ?_; (try simp ))
    · simp at h4
      rw [restF_end h4, runT] at hc
      subst hc
      try simp 
      apply he
      repeat (refine PreK.intro (by first | omega | (intros; first | omega | (refine ⟨by omega, ?_⟩; simp_all; done) | (simp_all; done) | (simp_all; omega))) fun _ => ?_; (try simp ))

/-! ### the best order -/
def bP : List AV := [.pt 101 0 0 0, .pt 102 0 0 0, .pt 103 0 0 0]
def bM (f : List (List Int)) (s : List Int × List Int) : List (Nat × Option Box) := [(101, some ⟨1, [tabV f], 0, true⟩), (102, some ⟨1, [slV s.1], 0, true⟩), (103, some ⟨1, [slV s.2], 0, true⟩)]
def bothI (s : List Int × List Int) : Prop := s.1 ≠ [] → s.2 ≠ []
theorem marksM_ne (o : List Int) (f : List (List Int)) : marksM o f ≠ [] := fun e => by
  have h1 := marks_len o f
  have h2 := marksN_pos o f
  rw [e] at h1
  simp at h1
  omega
theorem bothI_step (f : List (List Int)) (s : List Int × List Int) (o : List Int) (h : bothI s) : bothI (stepB f s o).1 := by
  unfold stepB
  dsimp only
  split
  · exact fun _ => marksM_ne o f
  · exact h
theorem bothI_run (f : List (List Int)) : ∀ (l : List (List Int)) (s : List Int × List Int), bothI s → bothI (runT (stepB f) s l).1
  | [], s, h => h
  | o :: l, s, h => by
    rw [runT]
    split
    · exact bothI_run f l _ (bothI_step f s o h)
    · exact bothI_step f s o h
theorem best1_b (f : List (List Int)) (n : Nat) (hf : FamOK n f) (s : List Int × List Int) (o : List Int) (ho : OrdOK n o) (hs : bothI s) : CallB Tryz.prog 96 (ints o :: bP) (bM f s) (bv (stepB f s o).2) (bM f (stepB f s o).1) := by
  have hmc := marks_c f o (fam_sm hf) (by have := ho.len; have := hf.hi; omega)
  have hne := ord_ne hf.lo ho
  have hmn := marksM_ne o f
  refine CB96 (by simp [bP]) (by simp [bM]) ?_
  unfold stepB
  unfold marksP at hmc
  generalize fitsM o f = F at *
  obtain ⟨s1, s2⟩ := s
  unfold bothI at hs
  dsimp only at hs ⊢
  cases F with
  | true =>
    simp only [if_true, Bool.true_and] at hmc ⊢
    generalize marksM o f = M at *
    by_cases h1 : s1 = []
    · subst h1
      simp only [decide_true, Bool.true_or, if_true]
      simp only [bM, slV_ne hne, slV_ne hmn, slV_nil]
      rcases slV_cases s2 with e2 | e2
      all_goals
        simp only [e2]
        simp [A96, bP]
        try simp 
        repeat' (first
          | (refine CallX.pure (hmc) (by simp) (by simp) ?_; try simp )
          | (refine CallK.intro (hmc) (by simp) (by simp) ?_; try simp )
          | (refine CallG.intro (fun _ => hmc) (by simp) (by simp) ?_; try simp )
          | ((with_reducible refine PreK.intro ?_ ?_); (next => (first | omega | (intros; first | omega | (refine ⟨by omega, ?_⟩; repeat (first | assumption | constructor)) | assumption))); intro _; try simp )
          | fail)
        try simp 
        repeat (refine PreK.intro (by first | omega | (intros; first | omega | (refine ⟨by omega, ?_⟩; simp_all; done) | (simp_all; done) | (simp_all; omega))) fun _ => ?_; (try simp ))
        refine CondK.tt ?_
        try simp 
        try simp 
        repeat (refine PreK.intro (by first | omega | (intros; first | omega | (refine ⟨by omega, ?_⟩; simp_all; done) | (simp_all; done) | (simp_all; omega))) fun _ => ?_; (try simp ))
    · have h2 := hs h1
      simp only [h1, decide_false, Bool.false_or]
      simp only [bM, slV_ne h1, slV_ne h2]
      by_cases h3 : M.length < s2.length
      · simp only [h3, decide_true, if_true, slV_ne hne, slV_ne hmn]
        simp [A96, bP]
        try simp 
        repeat' (first
          | (refine CallX.pure (hmc) (by simp) (by simp) ?_; try simp )
          | (refine CallK.intro (hmc) (by simp) (by simp) ?_; try simp )
          | (refine CallG.intro (fun _ => hmc) (by simp) (by simp) ?_; try simp )
          | ((with_reducible refine PreK.intro ?_ ?_); (next => (first | omega | (intros; first | omega | (refine ⟨by omega, ?_⟩; repeat (first | assumption | constructor)) | assumption))); intro _; try simp )
          | fail)
        try simp [h1, h3]
        repeat (refine PreK.intro (by first | omega | (intros; first | omega | (refine ⟨by omega, ?_⟩; simp_all; done) | (simp_all; done) | (simp_all; omega))) fun _ => ?_; (try simp [h1, h3]))
        refine CondK.tt ?_
        try simp 
        repeat (refine PreK.intro (by first | omega | (intros; first | omega | (refine ⟨by omega, ?_⟩; simp_all; done) | (simp_all; done) | (simp_all; omega))) fun _ => ?_; (try simp ))
      · simp only [h3, decide_false, Bool.false_eq_true, if_false, slV_ne h1, slV_ne h2]
        simp [A96, bP]
        try simp 
        repeat' (first
          | (refine CallX.pure (hmc) (by simp) (by simp) ?_; try simp )
          | (refine CallK.intro (hmc) (by simp) (by simp) ?_; try simp )
          | (refine CallG.intro (fun _ => hmc) (by simp) (by simp) ?_; try simp )
          | ((with_reducible refine PreK.intro ?_ ?_); (next => (first | omega | (intros; first | omega | (refine ⟨by omega, ?_⟩; repeat (first | assumption | constructor)) | assumption))); intro _; try simp )
          | fail)
        try simp [h1, h3]
        repeat (refine PreK.intro (by first | omega | (intros; first | omega | (refine ⟨by omega, ?_⟩; simp_all; done) | (simp_all; done) | (simp_all; omega))) fun _ => ?_; (try simp [h1, h3]))
        refine CondK.ff ?_
        try simp 
        repeat (refine PreK.intro (by first | omega | (intros; first | omega | (refine ⟨by omega, ?_⟩; simp_all; done) | (simp_all; done) | (simp_all; omega))) fun _ => ?_; (try simp ))
  | false =>
    simp only [Bool.false_eq_true, if_false, Bool.false_and] at hmc ⊢
    simp only [bM]
    rcases slV_cases s1 with e1 | e1 <;> rcases slV_cases s2 with e2 | e2
    all_goals
      simp only [e1, e2]
      simp [A96, bP]
      try simp 
      repeat' (first
        | (refine CallX.pure (hmc) (by simp) (by simp) ?_; try simp )
        | (refine CallK.intro (hmc) (by simp) (by simp) ?_; try simp )
        | (refine CallG.intro (fun _ => hmc) (by simp) (by simp) ?_; try simp )
        | ((with_reducible refine PreK.intro ?_ ?_); (next => (first | omega | (intros; first | omega | (refine ⟨by omega, ?_⟩; repeat (first | assumption | constructor)) | assumption))); intro _; try simp )
        | fail)
      try simp 
      repeat (refine PreK.intro (by first | omega | (intros; first | omega | (refine ⟨by omega, ?_⟩; simp_all; done) | (simp_all; done) | (simp_all; omega))) fun _ => ?_; (try simp ))
      refine CondK.ff ?_
      try simp 
      repeat (refine PreK.intro (by first | omega | (intros; first | omega | (refine ⟨by omega, ?_⟩; simp_all; done) | (simp_all; done) | (simp_all; omega))) fun _ => ?_; (try simp ))
theorem orders2_b (f : List (List Int)) (n : Nat) (hf : FamOK n f) : ∀ (m : Nat) (b : List Int) (s : (List Int × List Int)), bothI s → b.Nodup → (∀ x ∈ b, 0 ≤ x ∧ x < n) → b.length + m = n →
    CallB Tryz.prog 77 [iv n, ints b, .fn 96 [] bP] (bM f s) (bv (runT (stepB f) s (ordF n m b)).2) (bM f (runT (stepB f) s (ordF n m b)).1)
  | 0, b, s, hs, h1, h2, h3 => by
    have ho : OrdOK n b := ordOK_of_perm (perm_of_sub h1 (fun x hx => mem_ids.2 (h2 x hx)) (by rw [ids_len]; omega)).symm
    have hd := best1_b f n hf s b ho hs
    have eR : runT (stepB f) s (ordF n 0 b) = stepB f s b := runT_one _ _ _
    rw [eR]
    generalize stepB f s b = R at hd
    obtain ⟨s2, r⟩ := R
    dsimp only at hd ⊢
    have hbl : (b.length : Int) = n := by omega
    refine CB77 (by simp [bP]) (by simp [bM]) ?_
    simp only [bM, bP] at hd
    simp [A77, bP, bM, hbl]
    refine CondK.tt ?_
    try simp 
    repeat (refine PreK.intro (by first | omega | (intros; first | omega | (refine ⟨by omega, ?_⟩; simp_all; done) | (simp_all; done) | (simp_all; omega))) fun _ => ?_; (try simp ))
    refine CallX.boxes [(101, 0, 101), (102, 0, 102), (103, 0, 103)] (by simp) (by simpa using hd) ?_
    repeat (refine PreK.intro (by first | omega | (intros; first | omega | (refine ⟨by omega, ?_⟩; simp_all; done) | (simp_all; done) | (simp_all; omega))) fun _ => ?_; (try simp ))
  | m + 1, b, s, hs, h1, h2, h3 => by
    have hhi := hf.hi
    have hbl : ¬ (b.length : Int) = n := by omega
    refine CB77 (by simp [bP]) (by simp [bM]) ?_
    rw [← restF_zero]
    generalize hR : runT (stepB f) s (restF n m b 0) = R
    simp [A77, bP, bM, hbl]
    refine CondK.ff ?_
    try simp 
    repeat (refine PreK.intro (by first | omega | (intros; first | omega | (refine ⟨by omega, ?_⟩; simp_all; done) | (simp_all; done) | (simp_all; omega))) fun _ => ?_; (try simp ))
    refine LoopK.by (ι := Nat × (List Int × List Int)) (fun x => ⟨[(16, iv x.1), (15, iv n), (0, iv n), (1, ints b), (2, .fn 96 [] bP)], bM f x.2⟩) (fun x => n - x.1) (fun x => x.1 ≤ n ∧ bothI x.2 ∧ runT (stepB f) x.2 (restF n m b x.1) = R) (0, s) ⟨Nat.zero_le _, hs, hR⟩ (by simp [bM, bP]) ?_
    intro ⟨i, s1⟩ Q' ⟨hi, hs1, hc⟩ hq he hr
    dsimp only at hi hs1 hc
    simp only [bM, bP]
    try simp 
    refine CondK.intro (fun h4 => ?_) (fun h4 => ?_)
    · simp at h4
      have hcn := contains_c b i (sbig (by omega))
      rw [any_contains] at hcn
      have hin := bothI_run f (ordF n m (b ++ [(i : Int)])) s1 hs1
      have hrec := orders2_b f n hf m (b ++ [(i : Int)]) s1 hs1
      have hout := restF_out (n := n) (m := m) (b := b) h4
      have hinn := restF_in (n := n) (m := m) (b := b) h4
      have hmem : b.contains (i : Int) = false → (i : Int) ∉ b := fun h hm => by rw [List.contains_iff_mem.2 hm] at h; cases h
      have hclo := clone_o b (by omega)
      generalize b.contains (i : Int) = cb at *
      try simp 
      repeat' (first
        | (refine CallX.pure (hcn) (by simp) (by simp) ?_; try simp )
        | (refine CallK.intro (hcn) (by simp) (by simp) ?_; try simp )
        | (refine CallG.intro (fun _ => hcn) (by simp) (by simp) ?_; try simp )
        | ((with_reducible refine PreK.intro ?_ ?_); (next => (first | omega | (intros; first | omega | (refine ⟨by omega, ?_⟩; repeat (first | assumption | constructor)) | assumption))); intro _; try simp )
        | fail)
      cases cb with
      | true =>
        rw [hinn rfl] at hc
        try simp 
        repeat (refine PreK.intro (by first | omega | (intros; first | omega | (refine ⟨by omega, ?_⟩; simp_all; done) | (simp_all; done) | (simp_all; omega))) fun _ => ?_; (try simp ))
        refine CallG.intro (r := (.seq 1 [] false)) (fun hh => by cases hh) (by simp) (by simp) ?_
        try simp 
        try simp 
        repeat (refine PreK.intro (by first | omega | (intros; first | omega | (refine ⟨by omega, ?_⟩; simp_all; done) | (simp_all; done) | (simp_all; omega))) fun _ => ?_; (try simp ))
        refine CallG.intro (r := (bv true)) (fun hh => by cases hh) (by simp) (by simp) ?_
        try simp 
        try simp 
        repeat (refine PreK.intro (by first | omega | (intros; first | omega | (refine ⟨by omega, ?_⟩; simp_all; done) | (simp_all; done) | (simp_all; omega))) fun _ => ?_; (try simp ))
        refine CondK.ff ?_
        try simp 
        repeat (refine PreK.intro (by first | omega | (intros; first | omega | (refine ⟨by omega, ?_⟩; simp_all; done) | (simp_all; done) | (simp_all; omega))) fun _ => ?_; (try simp ))
        exact hq (i + 1, s1) _ ⟨by dsimp only; omega, hs1, hc⟩ (by dsimp only; omega) (by simp [bM, bP])
      | false =>
        rw [hout rfl, runT_append] at hc
        have hni := hmem rfl
        have hd := hrec (by rw [List.nodup_append]; exact ⟨h1, by simp, fun x hx y hy e => by simp only [List.mem_singleton] at hy; subst hy; subst e; exact hni hx⟩) (fun x hx => by
          rcases List.mem_append.1 hx with hx | hx
          · exact h2 x hx
          · simp only [List.mem_singleton] at hx; subst hx; omega) (by simp; omega)
        generalize runT (stepB f) s1 (ordF n m (b ++ [(i : Int)])) = R1 at hd hc hin
        obtain ⟨s2, r⟩ := R1
        dsimp only at hd hc hin
        simp only [bM, bP] at hd
        try simp 
        repeat (refine PreK.intro (by first | omega | (intros; first | omega | (refine ⟨by omega, ?_⟩; simp_all; done) | (simp_all; done) | (simp_all; omega))) fun _ => ?_; (try simp ))
        refine CallG.made ?_
        refine CallX.own (by simpa using hclo) (by simp) (by simp) ?_
        try simp 
        repeat (refine PreK.intro (by first | omega | (intros; first | omega | (refine ⟨by omega, ?_⟩; simp_all; done) | (simp_all; done) | (simp_all; omega))) fun _ => ?_; (try simp ))
        refine CallG.made ?_
        refine CallX.frz 26 (b := ⟨1, b.map iv ++ [iv i], 2, false⟩) (by simp) (by simp) ?_
        refine CallX.boxes [(101, 0, 101), (102, 0, 102), (103, 0, 103)] (by simp) (by simpa [take_map_one] using hd) ?_
        try simp 
        repeat (refine PreK.intro (by first | omega | (intros; first | omega | (refine ⟨by omega, ?_⟩; simp_all; done) | (simp_all; done) | (simp_all; omega))) fun _ => ?_; (try simp ))
        cases r with
        | true =>
          simp only [if_true] at hc
          try simp 
          repeat (refine PreK.intro (by first | omega | (intros; first | omega | (refine ⟨by omega, ?_⟩; simp_all; done) | (simp_all; done) | (simp_all; omega))) fun _ => ?_; (try simp ))
          refine CondK.ff ?_
          try simp 
          repeat (refine PreK.intro (by first | omega | (intros; first | omega | (refine ⟨by omega, ?_⟩; simp_all; done) | (simp_all; done) | (simp_all; omega))) fun _ => ?_; (try simp ))
          exact hq (i + 1, s2) _ ⟨by dsimp only; omega, hin, hc⟩ (by dsimp only; omega) (by simp [bM, bP])
        | false =>
          simp only [Bool.false_eq_true, if_false] at hc
          subst hc
          try simp 
          repeat (refine PreK.intro (by first | omega | (intros; first | omega | (refine ⟨by omega, ?_⟩; simp_all; done) | (simp_all; done) | (simp_all; omega))) fun _ => ?_; (try simp ))
          refine CondK.tt ?_
          try simp 
          repeat (refine PreK.intro (by first | omega | (intros; first | omega | (refine ⟨by omega, ?_⟩; simp_all; done) | (simp_all; done) | (simp_all; omega))) fun _ => ?_; (try simp ))
          apply hr
          try simp 
          repeat (refine PreK.intro (by first | omega | (intros; first | omega | (refine ⟨by omega, ?_⟩; simp_all; done) | (simp_all; done) | (simp_all; omega))) fun _ => ?_; (try simp ))
    · simp at h4
      rw [restF_end h4, runT] at hc
      subst hc
      try simp 
      apply he
      repeat (refine PreK.intro (by first | omega | (intros; first | omega | (refine ⟨by omega, ?_⟩; simp_all; done) | (simp_all; done) | (simp_all; omega))) fun _ => ?_; (try simp ))
end Go.Proofs.YtgfgkfkplidncaaGreat
end

section
/- Contracts: for what a name stands; all names and classes of a table. -/
namespace Go.Proofs.YtgfgkfkplidncaaGreat
open Go.Abs Go
set_option maxRecDepth 20000
set_option maxHeartbeats 2000000
attribute [local irreducible] PreK CondK CallK CallG CallX LoopK
attribute [local simp] avsEq avEq akind teq vkind vEq

@[simp] def namesV (l : List (Int × Int)) : AV := .seq 2 (l.map pairV) false
instance : Inhabited (Int × Int) := ⟨(0, 0)⟩
@[simp] theorem nth_pair (l : List (Int × Int)) (k : Nat) (h : k < l.length) : nth (l.map pairV) k = pairV (el l k) := nth_map pairV l k h
theorem clone_k (k : Bool) (l : List Int) (hl : l.length ≤ 1000) : CallO Tryz.prog 63 [.seq 1 (l.map iv) k] 1 (l.map iv) := by
  refine CO63 (by simp) ?_
  simp [A63, nilOK, nilArg, nilOf]
  intro b hb
  refine CondK.intro (fun h => ?_) (fun h => ?_)
  · simp at h
    have h2 := hb h
    simp at h2
    subst h2
    simp
  · simp
    refine PreK.intro (by omega) fun _ => ?_
    simp
theorem stand_c (t : Tab) (h : TabOK t) (s r : Int) : CallP Tryz.prog 48 [lineV t, pairV (s, r)] (.tup [ints (standE t s r).1, bv (standE t s r).2]) := by
  refine C48 (by simp) ?_
  have hl := h.len
  have hrl := rowsF_len t 0
  have hlast := rowsF_last h
  have hix := index_c t.flatten s (sbig (by omega))
  unfold lineV
  have hp1 : 1 ≤ t.flatten.length := Nat.le_trans (endN_pos h 0) (endN_le t 0)
  by_cases hm : s ∈ t.flatten
  · obtain ⟨a, b, hab, ha⟩ := split_at hm
    have hidx : idxF (fun x => decide (s = x)) 0 t.flatten = (a.length : Int) := by rw [hab, idxF_at a b 0 ha]; simp
    rw [hidx] at hix
    have hal : a.length < t.flatten.length := by rw [hab]; simp
    have hrow := rows_at hab ha
    have hrb := row_lt t hm
    by_cases h1 : r < rowI s 0 t
    · have e1 : standE t s r = ([], false) := by
        have : isName t s r = false := by
          cases hb : isName t s r with
          | false => rfl
          | true => have := isName_row.1 hb; omega
        simp [standE, this]
      rw [e1]
      generalize t.flatten = L at *
      generalize rowsF 0 t = R at *
      have e2 : ((L.length : Int) - 1).toNat = L.length - 1 := by omega
      have e3 : L.length - 1 < L.length := by omega
      simp [A48]
      try simp 
      repeat' (first
        | (refine CallX.pure (hix) (by simp) (by simp) ?_; try simp )
        | (refine CallK.intro (hix) (by simp) (by simp) ?_; try simp )
        | (refine CallG.intro (fun _ => hix) (by simp) (by simp) ?_; try simp )
        | ((with_reducible refine PreK.intro ?_ ?_); (next => (first | omega | (intros; first | omega | (refine ⟨by omega, ?_⟩; repeat (first | assumption | constructor)) | assumption))); intro _; try simp )
        | fail)
      try simp [hal, hrl, hrow, h1, e2, e3]
      repeat (refine PreK.intro (by first | omega | (intros; first | omega | (refine ⟨by omega, ?_⟩; simp_all; done) | (simp_all; done) | (simp_all; omega))) fun _ => ?_; (try simp [hal, hrl, hrow, h1, e2, e3]))
      refine CondK.tt ?_
      try simp 
      repeat (refine PreK.intro (by first | omega | (intros; first | omega | (refine ⟨by omega, ?_⟩; simp_all; done) | (simp_all; done) | (simp_all; omega))) fun _ => ?_; (try simp ))
    · by_cases h2 : (t.length : Int) - 1 < r
      · have e1 : standE t s r = ([], false) := by
          have : isName t s r = false := by
            cases hb : isName t s r with
            | false => rfl
            | true => have := isName_row.1 hb; omega
          simp [standE, this]
        rw [e1]
        generalize t.flatten = L at *
        generalize rowsF 0 t = R at *
        have e2 : ((L.length : Int) - 1).toNat = L.length - 1 := by omega
        have e3 : L.length - 1 < L.length := by omega
        rw [hrl] at hlast
        simp [A48]
        try simp 
        repeat' (first
          | (refine CallX.pure (hix) (by simp) (by simp) ?_; try simp )
          | (refine CallK.intro (hix) (by simp) (by simp) ?_; try simp )
          | (refine CallG.intro (fun _ => hix) (by simp) (by simp) ?_; try simp )
          | ((with_reducible refine PreK.intro ?_ ?_); (next => (first | omega | (intros; first | omega | (refine ⟨by omega, ?_⟩; repeat (first | assumption | constructor)) | assumption))); intro _; try simp )
          | fail)
        try simp [hal, hrl, hrow, h1, h2, hlast, e2, e3]
        repeat (refine PreK.intro (by first | omega | (intros; first | omega | (refine ⟨by omega, ?_⟩; simp_all; done) | (simp_all; done) | (simp_all; omega))) fun _ => ?_; (try simp [hal, hrl, hrow, h1, h2, hlast, e2, e3]))
        refine CondK.tt ?_
        try simp 
        repeat (refine PreK.intro (by first | omega | (intros; first | omega | (refine ⟨by omega, ?_⟩; simp_all; done) | (simp_all; done) | (simp_all; omega))) fun _ => ?_; (try simp ))
      · have hnm : isName t s r = true := isName_row.2 ⟨hm, by omega, by omega⟩
        obtain ⟨hr0, hrt, hsp⟩ := name_of hnm
        obtain ⟨q, rfl⟩ : ∃ q : Nat, r = (q : Int) := ⟨r.toNat, by omega⟩
        simp only [Int.toNat_natCast] at hrt hsp
        have e1 : standE t s (q : Int) = (standM t s q, true) := by simp [standE, hnm]
        rw [e1]
        have hen := endN_le t q
        have hae : a.length < endN t q := by
          have := (rowsF_le t 0 a.length q (by omega)).1 (by rw [hrow]; omega)
          exact this
        have hle : ∀ e, e < t.flatten.length → (el (rowsF 0 t) e ≤ (q : Int) ↔ e < endN t q) := fun e he => by
          have := rowsF_le t 0 e q (by omega)
          rw [show ((0 + q : Nat) : Int) = (q : Int) by omega] at this
          exact this
        have hseg : (t.flatten.take (endN t q)).drop a.length = segM t s q := by
          rw [pre_take]
          unfold segM
          obtain ⟨a', b', h3, h4, _, h6, h7⟩ := name_split h hsp
          have haa : a = a' := by
            have h8 := hab.symm.trans h3
            have : a.length = a'.length := el_inj h.nd hal (by rw [h3]; simp) (by
              rw [show el t.flatten a.length = s by rw [hab, el_append_right (Nat.le_refl _)]; simp [el], show el t.flatten a'.length = s by rw [h3, el_append_right (Nat.le_refl _)]; simp [el]])
            exact (List.append_inj h8 this).1
          rw [← haa] at h6
          rw [h6, dropWhile_at _ _ ha, List.drop_left' rfl]
        unfold standM
        have hs1 := sortI_L (segM t s q)
        have hSG := sortI_len (segM t s q)
        generalize sortI (segM t s q) = S at hs1 hSG ⊢
        generalize segM t s q = G at *
        generalize t.flatten = L at *
        generalize rowsF 0 t = R at *
        generalize hE : endN t q = E at *
        have e2 : ((L.length : Int) - 1).toNat = L.length - 1 := by omega
        have e3 : L.length - 1 < L.length := by omega
        rw [hrl] at hlast
        have e4 : ¬ (q : Int) < rowI s 0 t := by omega
        have e5 : ¬ (t.length : Int) - 1 < (q : Int) := by omega
        simp [A48]
        try simp 
        repeat' (first
          | (refine CallX.pure (hix) (by simp) (by simp) ?_; try simp )
          | (refine CallK.intro (hix) (by simp) (by simp) ?_; try simp )
          | (refine CallG.intro (fun _ => hix) (by simp) (by simp) ?_; try simp )
          | ((with_reducible refine PreK.intro ?_ ?_); (next => (first | omega | (intros; first | omega | (refine ⟨by omega, ?_⟩; repeat (first | assumption | constructor)) | assumption))); intro _; try simp )
          | fail)
        try simp [hal, hrl, hrow, e4, e5, hlast, e2, e3]
        repeat (refine PreK.intro (by first | omega | (intros; first | omega | (refine ⟨by omega, ?_⟩; simp_all; done) | (simp_all; done) | (simp_all; omega))) fun _ => ?_; (try simp [hal, hrl, hrow, e4, e5, hlast, e2, e3]))
        refine CondK.ff ?_
        try simp 
        repeat (refine PreK.intro (by first | omega | (intros; first | omega | (refine ⟨by omega, ?_⟩; simp_all; done) | (simp_all; done) | (simp_all; omega))) fun _ => ?_; (try simp ))
        refine LoopK.by (ι := Nat) (fun e => ⟨[(7, iv e), (6, iv a.length), (2, .pt 2 1 0 0), (3, .pt 3 1 0 0)], [(2, some ⟨2, [.agg [ints L, ints R]], 1, true⟩), (3, some ⟨2, [.agg [iv s, iv q]], 1, true⟩)]⟩) (fun e => E - e) (fun e => a.length ≤ e ∧ e ≤ E) a.length ⟨Nat.le_refl _, by omega⟩ (by simp) ?_
        intro e Q' ⟨h3, h4⟩ hq he hr
        by_cases h5 : e < L.length
        · have h6 := hle e h5
          by_cases h7 : e < E
          · have h8 := h6.2 h7
            try simp [h5, hrl, h8]
            repeat (refine PreK.intro (by first | omega | (intros; first | omega | (refine ⟨by omega, ?_⟩; simp_all; done) | (simp_all; done) | (simp_all; omega))) fun _ => ?_; (try simp [h5, hrl, h8]))
            refine CondK.tt ?_
            try simp 
            repeat (refine PreK.intro (by first | omega | (intros; first | omega | (refine ⟨by omega, ?_⟩; simp_all; done) | (simp_all; done) | (simp_all; omega))) fun _ => ?_; (try simp ))
            exact hq (e + 1) _ ⟨by omega, by omega⟩ (by omega) (by simp)
          · have h8 : ¬ el R e ≤ (q : Int) := fun h9 => h7 (h6.1 h9)
            have h9 : e = E := by omega
            subst h9
            try simp [h5, hrl, h8]
            repeat (refine PreK.intro (by first | omega | (intros; first | omega | (refine ⟨by omega, ?_⟩; simp_all; done) | (simp_all; done) | (simp_all; omega))) fun _ => ?_; (try simp [h5, hrl, h8]))
            refine CondK.ff ?_
            try simp 
            repeat (refine PreK.intro (by first | omega | (intros; first | omega | (refine ⟨by omega, ?_⟩; simp_all; done) | (simp_all; done) | (simp_all; omega))) fun _ => ?_; (try simp ))
            apply he
            have hgl : G.length = e - a.length := by rw [← hseg]; simp; omega
            repeat (refine PreK.intro (by first | omega | (intros; first | omega | (refine ⟨by omega, ?_⟩; simp_all; done) | (simp_all; done) | (simp_all; omega))) fun _ => ?_; (try simp [hen, hae]))
            have hgd : List.drop a.length (List.take e (List.map iv L)) = List.map iv G := by rw [← hseg]; simp [List.map_drop, List.map_take]
            have hgm : min e L.length - a.length = G.length := by omega
            refine CallX.own (by simpa [hgd] using clone_k false G (by omega)) (by simp) (by simp) ?_
            try simp [hgm]
            refine CallX.lend [] (id := 63) (ver := 1) (n := G.length) (b := ⟨1, G.map iv, 1, false⟩) [] (.val (.tup [])) _ (by simp [hgm]) (by simp) (by simp) (by simp) (by simp) (by simp) (by simp) (by simpa using hs1) ?_
            repeat (refine PreK.intro (by first | omega | (intros; first | omega | (refine ⟨by omega, ?_⟩; simp_all; done) | (simp_all; done) | (simp_all; omega))) fun _ => ?_; (try simp [hgm, hSG]))
            simp [← hSG]
        · have h9 : e = E := by omega
          subst h9
          have hgl : G.length = e - a.length := by rw [← hseg]; simp; omega
          have hnj : nth (R.map iv) e = .junk := nth_ge iv R (by omega)
          try simp [h5, hrl, hnj]
          repeat (refine PreK.intro (by first | omega | (intros; first | omega | (refine ⟨by omega, ?_⟩; simp_all; done) | (simp_all; done) | (simp_all; omega))) fun _ => ?_; (try simp [h5, hrl, hnj]))
          refine CondK.ff ?_
          try simp 
          repeat (refine PreK.intro (by first | omega | (intros; first | omega | (refine ⟨by omega, ?_⟩; simp_all; done) | (simp_all; done) | (simp_all; omega))) fun _ => ?_; (try simp ))
          apply he
          repeat (refine PreK.intro (by first | omega | (intros; first | omega | (refine ⟨by omega, ?_⟩; simp_all; done) | (simp_all; done) | (simp_all; omega))) fun _ => ?_; (try simp [hen, hae]))
          have hgd : List.drop a.length (List.take e (List.map iv L)) = List.map iv G := by rw [← hseg]; simp [List.map_drop, List.map_take]
          have hgm : min e L.length - a.length = G.length := by omega
          refine CallX.own (by simpa [hgd] using clone_k false G (by omega)) (by simp) (by simp) ?_
          try simp [hgm]
          refine CallX.lend [] (id := 63) (ver := 1) (n := G.length) (b := ⟨1, G.map iv, 1, false⟩) [] (.val (.tup [])) _ (by simp [hgm]) (by simp) (by simp) (by simp) (by simp) (by simp) (by simp) (by simpa using hs1) ?_
          repeat (refine PreK.intro (by first | omega | (intros; first | omega | (refine ⟨by omega, ?_⟩; simp_all; done) | (simp_all; done) | (simp_all; omega))) fun _ => ?_; (try simp [hgm, hSG]))
          simp [← hSG]
  · have hidx := idxF_none t.flatten 0 hm
    rw [hidx] at hix
    have e1 : standE t s r = ([], false) := by
      have : isName t s r = false := by
        cases hb : isName t s r with
        | false => rfl
        | true => exact absurd (isName_row.1 hb).1 hm
      simp [standE, this]
    rw [e1]
    generalize t.flatten = L at *
    generalize rowsF 0 t = R at *
    have e2 : ((L.length : Int) - 1).toNat = L.length - 1 := by omega
    have e3 : L.length - 1 < L.length := by omega
    have e0 : 0 < L.length := by omega
    simp [A48]
    try simp 
    repeat' (first
      | (refine CallX.pure (hix) (by simp) (by simp) ?_; try simp )
      | (refine CallK.intro (hix) (by simp) (by simp) ?_; try simp )
      | (refine CallG.intro (fun _ => hix) (by simp) (by simp) ?_; try simp )
      | ((with_reducible refine PreK.intro ?_ ?_); (next => (first | omega | (intros; first | omega | (refine ⟨by omega, ?_⟩; repeat (first | assumption | constructor)) | assumption))); intro _; try simp )
      | fail)
    try simp [hrl, e0, e2, e3]
    repeat (refine PreK.intro (by first | omega | (intros; first | omega | (refine ⟨by omega, ?_⟩; simp_all; done) | (simp_all; done) | (simp_all; omega))) fun _ => ?_; (try simp [hrl, e0, e2, e3]))
    refine CondK.tt ?_
    try simp 
    repeat (refine PreK.intro (by first | omega | (intros; first | omega | (refine ⟨by omega, ?_⟩; simp_all; done) | (simp_all; done) | (simp_all; omega))) fun _ => ?_; (try simp ))
theorem names_o (t : Tab) (h : TabOK t) : CallO Tryz.prog 46 [tabV t] 2 ((namesM t).map pairV) := by
  refine CO46 (by simp) ?_
  have hlo := lineOf_c t h
  have hl := h.len
  have hn := h.num
  have hrl := rowsF_len t 0
  have hge := fun e he => rowsF_ge t 0 e he
  have hnn := names_num h
  have hsn := sort_names h
  have hpl := (names_perm h).length_eq
  have hs1 := sortN_L (allM t)
  rw [hsn] at hs1
  unfold lineV at hlo
  generalize hA : allM t = A at hs1 hpl
  unfold allM at hA
  generalize namesM t = N at *
  generalize t.flatten = L at *
  generalize rowsF 0 t = R at *
  simp [A46]
  try simp 
  repeat' (first
    | (refine CallX.pure (hlo) (by simp) (by simp) ?_; try simp )
    | (refine CallK.intro (hlo) (by simp) (by simp) ?_; try simp )
    | (refine CallG.intro (fun _ => hlo) (by simp) (by simp) ?_; try simp )
    | ((with_reducible refine PreK.intro ?_ ?_); (next => (first | omega | (intros; first | omega | (refine ⟨by omega, ?_⟩; repeat (first | assumption | constructor)) | assumption))); intro _; try simp )
    | fail)
  repeat (refine PreK.intro (by first | omega | (intros; first | omega | (refine ⟨by omega, ?_⟩; simp_all; done) | (simp_all; done) | (simp_all; omega))) fun _ => ?_; (try simp ))
  refine LoopK.by (ι := Nat × Nat × List (Int × Int)) (fun x => ⟨[(16, iv x.1), (15, iv L.length), (14, ints L), (4, .sl 4 x.2.1 0 x.2.2.length), (3, .pt 3 1 0 0), (0, tabV t)], [(4, some ⟨2, x.2.2.map pairV, x.2.1, false⟩), (3, some ⟨2, [.agg [ints L, ints R]], 1, true⟩)]⟩) (fun x => L.length - x.1)
    (fun x => x.1 ≤ L.length ∧ x.2.2 ++ allF t.length (L.drop x.1) (R.drop x.1) = A) (0, 1, []) ⟨Nat.zero_le _, by simpa using hA⟩ (by simp) ?_
  intro ⟨i, ver, acc⟩ Q' ⟨hi, hc⟩ hq he hr
  dsimp only at hi hc
  try simp 
  refine CondK.intro (fun h1 => ?_) (fun h1 => ?_)
  · simp at h1
    have h1' : i < R.length := by omega
    obtain ⟨g1, g2⟩ := hge i h1'
    obtain ⟨k, hk⟩ : ∃ k : Nat, el R i = (k : Int) := ⟨(el R i).toNat, by omega⟩
    rw [drop_cons L i h1, drop_cons R i h1', allF, hk, Int.toNat_natCast] at hc
    try simp [h1, h1', hk]
    repeat (refine PreK.intro (by first | omega | (intros; first | omega | (refine ⟨by omega, ?_⟩; simp_all; done) | (simp_all; done) | (simp_all; omega))) fun _ => ?_; (try simp [h1, h1', hk]))
    refine LoopK.by (ι := Nat × Nat × List (Int × Int)) (fun x => ⟨[(7, iv x.1), (6, iv (el L i)), (16, iv i), (15, iv L.length), (14, ints L), (4, .sl 4 x.2.1 0 x.2.2.length), (3, .pt 3 1 0 0), (0, tabV t)], [(4, some ⟨2, x.2.2.map pairV, x.2.1, false⟩), (3, some ⟨2, [.agg [ints L, ints R]], 1, true⟩)]⟩) (fun x => t.length - x.1)
      (fun x => x.1 ≤ t.length ∧ x.2.2 ++ (rangeP (el L i) x.1 t.length ++ allF t.length (L.drop (i + 1)) (R.drop (i + 1))) = A) (k, ver, acc) ⟨by dsimp only; omega, hc⟩ (by simp) ?_
    intro ⟨k, v2, ac2⟩ Q2 ⟨hk2, hc2⟩ hq2 he2 hr2
    dsimp only at hk2 hc2
    have hlen := congrArg List.length hc2
    simp only [List.length_append] at hlen
    try simp 
    refine CondK.intro (fun h2 => ?_) (fun h2 => ?_)
    · simp at h2
      have e1 : rangeP (el L i) k t.length = (el L i, (k : Int)) :: rangeP (el L i) (k + 1) t.length := by
        unfold rangeP
        rw [show t.length - k = (t.length - (k + 1)) + 1 by omega, List.range'_succ]
        rfl
      rw [e1, List.cons_append] at hc2
      repeat (refine PreK.intro (by first | omega | (intros; first | omega | (refine ⟨by omega, ?_⟩; simp_all; done) | (simp_all; done) | (simp_all; omega))) fun _ => ?_; (try simp ))
      exact hq2 (k + 1, v2 + 1, ac2 ++ [(el L i, (k : Int))]) _ ⟨by dsimp only; omega, by simpa using hc2⟩ (by dsimp only; omega) (by simp)
    · simp at h2
      have e1 : rangeP (el L i) k t.length = [] := by
        unfold rangeP
        rw [show t.length - k = 0 by omega]
        rfl
      rw [e1, List.nil_append] at hc2
      try simp 
      apply he2
      repeat (refine PreK.intro (by first | omega | (intros; first | omega | (refine ⟨by omega, ?_⟩; simp_all; done) | (simp_all; done) | (simp_all; omega))) fun _ => ?_; (try simp ))
      exact hq (i + 1, v2, ac2) _ ⟨by dsimp only; omega, hc2⟩ (by dsimp only; omega) (by simp)
  · simp at h1
    rw [List.drop_eq_nil_of_le (by omega)] at hc
    simp only [allF, List.append_nil] at hc
    subst hc
    try simp 
    apply he
    try simp 
    refine CallX.lend [] (id := 4) (ver := ver) (n := acc.length) (b := ⟨2, acc.map pairV, ver, false⟩) [.fn 88 [] []] (.val (.tup [])) _ (by simp) (by simp) (by simp) (by simp) (by simp) (by simp) (by simp) (by simpa using hs1) ?_
    try simp 
    clear hq he hr
    refine LoopK.by (ι := Nat × Nat × List (Int × Int)) (fun x => ⟨[(43, iv x.1), (42, iv acc.length), (41, .sl 4 ver 0 acc.length), (8, .sl 8 x.2.1 0 x.2.2.length)], [(8, some ⟨2, x.2.2.map pairV, x.2.1, false⟩), (4, some ⟨2, N.map pairV, ver, false⟩)]⟩) (fun x => N.length - x.1)
      (fun x => x.1 ≤ N.length ∧ x.2.2 ++ N.drop x.1 = N) (0, 1, []) ⟨Nat.zero_le _, by simp⟩ (by simp) ?_
    intro ⟨j, v2, ac2⟩ Q2 ⟨hj, hc2⟩ hq2 he2 hr2
    dsimp only at hj hc2
    have hlen := congrArg List.length hc2
    simp only [List.length_append] at hlen
    try simp 
    refine CondK.intro (fun h2 => ?_) (fun h2 => ?_)
    · simp at h2
      have h2' : j < N.length := by omega
      rw [drop_cons N j h2'] at hc2
      repeat (refine PreK.intro (by first | omega | (intros; first | omega | (refine ⟨by omega, ?_⟩; simp_all; done) | (simp_all; done) | (simp_all; omega))) fun _ => ?_; (try simp [h2', h2]))
      exact hq2 (j + 1, v2 + 1, ac2 ++ [el N j]) _ ⟨by dsimp only; omega, by simpa using hc2⟩ (by dsimp only; omega) (by simp)
    · simp at h2
      rw [List.drop_eq_nil_of_le (by omega), List.append_nil] at hc2
      subst hc2
      try simp 
      apply he2
      repeat (refine PreK.intro (by first | omega | (intros; first | omega | (refine ⟨by omega, ?_⟩; simp_all; done) | (simp_all; done) | (simp_all; omega))) fun _ => ?_; (try simp ))
theorem names_c (t : Tab) (h : TabOK t) : CallP Tryz.prog 46 [tabV t] (namesV (namesM t)) := (names_o t h).toP
theorem classes_c (t : Tab) (h : TabOK t) : CallP Tryz.prog 56 [tabV t] (tabV (classesM t)) := by
  refine C56 (by simp) ?_
  have hlo := lineOf_c t h
  have hnc := names_c t h
  have hnn := names_num h
  have hst := fun s r => stand_c t h s r
  have hin : ∀ x ∈ namesM t, standE t x.1 x.2 = (standM t x.1 x.2.toNat, true) ∧ (standM t x.1 x.2.toNat).length ≤ 6 := by
    intro x hx
    have h1 := (mem_namesM h).1 hx
    refine ⟨by simp [standE, h1], ?_⟩
    obtain ⟨_, h2, h3⟩ := name_of h1
    exact six_len ((sortI_perm _).nodup_iff.2 (seg_nd h _ _)) fun y hy => seg_val h (mem_sortI.1 hy)
  unfold classesM
  generalize hS : setsM t = S
  have hSl : S.length ≤ 36 := by rw [← hS, setsM, List.length_map]; exact hnn
  have hSw : ∀ w ∈ S, w.length ≤ 6 := by
    intro w hw
    rw [← hS, setsM] at hw
    obtain ⟨x, hx, rfl⟩ := List.mem_map.1 hw
    exact (hin x hx).2
  unfold setsM at hS
  have hs1 := sortW_L S
  have hs2 := compact_L (sortW S) (by rw [sortW_len]; omega) (fun w hw => by have := hSw w ((sortW_perm S).mem_iff.1 hw); omega)
  have hsl := sortW_len S
  unfold uniq
  have hnum : (compW (sortW S)).length ≤ S.length := by
    rw [← hsl]
    cases sortW S with
    | nil => simp [compW]
    | cons x m => simp only [compW, List.length_cons]; have := compF_num x m; omega
  generalize sortW S = so at hs1 hs2 hsl hnum ⊢
  generalize compW so = U at hs2 hnum ⊢
  unfold lineV at hlo hst
  generalize namesM t = N at *
  generalize t.flatten = L at *
  generalize rowsF 0 t = R at *
  simp [A56]
  try simp 
  repeat' (first
    | (refine CallX.pure (hlo) (by simp) (by simp) ?_; try simp )
    | (refine CallK.intro (hlo) (by simp) (by simp) ?_; try simp )
    | (refine CallG.intro (fun _ => hlo) (by simp) (by simp) ?_; try simp )
    | ((with_reducible refine PreK.intro ?_ ?_); (next => (first | omega | (intros; first | omega | (refine ⟨by omega, ?_⟩; repeat (first | assumption | constructor)) | assumption))); intro _; try simp )
    | fail)
  repeat (refine PreK.intro (by first | omega | (intros; first | omega | (refine ⟨by omega, ?_⟩; simp_all; done) | (simp_all; done) | (simp_all; omega))) fun _ => ?_; (try simp ))
  try simp 
  repeat' (first
    | (refine CallX.pure (hnc) (by simp) (by simp) ?_; try simp )
    | (refine CallK.intro (hnc) (by simp) (by simp) ?_; try simp )
    | (refine CallG.intro (fun _ => hnc) (by simp) (by simp) ?_; try simp )
    | ((with_reducible refine PreK.intro ?_ ?_); (next => (first | omega | (intros; first | omega | (refine ⟨by omega, ?_⟩; repeat (first | assumption | constructor)) | assumption))); intro _; try simp )
    | fail)
  refine LoopK.by (ι := Nat × Nat × List (List Int)) (fun x => ⟨[(14, iv x.1), (13, iv N.length), (12, namesV N), (4, .sl 4 x.2.1 0 x.2.2.length), (3, .pt 3 1 0 0)], [(4, some ⟨1, x.2.2.map ints, x.2.1, false⟩), (3, some ⟨2, [.agg [ints L, ints R]], 1, true⟩)]⟩) (fun x => N.length - x.1)
    (fun x => x.1 ≤ N.length ∧ x.2.2 ++ (N.drop x.1).map (fun n => standM t n.1 n.2.toNat) = S) (0, 1, []) ⟨Nat.zero_le _, by simpa using hS⟩ (by simp) ?_
  intro ⟨i, ver, acc⟩ Q' ⟨hi, hc⟩ hq he hr
  dsimp only at hi hc
  have hlen := congrArg List.length hc
  simp only [List.length_append] at hlen
  try simp 
  refine CondK.intro (fun h1 => ?_) (fun h1 => ?_)
  · simp at h1
    obtain ⟨e1, e2⟩ := hin _ (el_mem_of N i h1)
    have hst1 := hst (el N i).1 (el N i).2
    rw [e1] at hst1
    rw [drop_cons N i h1, List.map_cons] at hc
    generalize standM t (el N i).1 (el N i).2.toNat = st at *
    try simp [h1]
    repeat (refine PreK.intro (by first | omega | (intros; first | omega | (refine ⟨by omega, ?_⟩; simp_all; done) | (simp_all; done) | (simp_all; omega))) fun _ => ?_; (try simp [h1]))
    try simp 
    repeat' (first
      | (refine CallX.pure (hst1) (by simp) (by simp) ?_; try simp )
      | (refine CallK.intro (hst1) (by simp) (by simp) ?_; try simp )
      | (refine CallG.intro (fun _ => hst1) (by simp) (by simp) ?_; try simp )
      | ((with_reducible refine PreK.intro ?_ ?_); (next => (first | omega | (intros; first | omega | (refine ⟨by omega, ?_⟩; repeat (first | assumption | constructor)) | assumption))); intro _; try simp )
      | fail)
    repeat (refine PreK.intro (by first | omega | (intros; first | omega | (refine ⟨by omega, ?_⟩; simp_all; done) | (simp_all; done) | (simp_all; omega))) fun _ => ?_; (try simp ))
    exact hq (i + 1, ver + 1, acc ++ [st]) _ ⟨by dsimp only; omega, by simpa using hc⟩ (by dsimp only; omega) (by simp)
  · simp at h1
    rw [List.drop_eq_nil_of_le (by omega)] at hc
    simp only [List.map_nil, List.append_nil] at hc
    subst hc
    try simp 
    apply he
    try simp 
    refine CallX.lend [] (id := 4) (ver := ver) (n := acc.length) (b := ⟨1, acc.map ints, ver, false⟩) [.fn 93 [] []] (.val (.tup [])) _ (by simp) (by simp) (by simp) (by simp) (by simp) (by simp) (by simp) (by simpa using hs1) ?_
    try simp 
    refine CallX.lend [] (id := 4) (ver := ver) (n := acc.length) (b := ⟨1, so.map ints, ver, false⟩) [.fn 49 [] []] (.part U.length) _ (by simp) (by simp) (by simp) (by simp) (by simp [hsl]) (by simp) (by simp) (by simpa using hs2) ?_
    repeat (refine PreK.intro (by first | omega | (intros; first | omega | (refine ⟨by omega, ?_⟩; simp_all; done) | (simp_all; done) | (simp_all; omega))) fun _ => ?_; (try simp ))
end Go.Proofs.YtgfgkfkplidncaaGreat
end

section
/- Contracts: the document's names and classes. -/
namespace Go.Proofs.YtgfgkfkplidncaaGreat
open Go.Abs Go
set_option maxRecDepth 20000
set_option maxHeartbeats 2000000
attribute [local irreducible] PreK CondK CallK CallG CallX LoopK
attribute [local simp] avsEq avEq akind teq vkind vEq

theorem six_ids : six = idsN 6 := by decide
theorem rsorted_c (l : List Int) (hl : l.length ≤ 1000) : CallP Tryz.prog 69 [ints l] (ints (srtM l)) := by
  refine C69 (by simp) ?_
  generalize hR : srtM l = R
  unfold srtM at hR
  rw [six_ids] at hR
  simp [A69]
  refine LoopK.by (ι := Nat × Nat × List Int) (fun x => ⟨[(4, iv x.1), (3, .sl 3 x.2.1 0 x.2.2.length), (0, ints l)], [(3, some ⟨1, x.2.2.map iv, x.2.1, false⟩)]⟩) (fun x => 6 - x.1) (fun x => x.1 ≤ 6 ∧ x.2.2.length ≤ x.1 ∧ x.2.2 ++ ((idsN 6).drop x.1).filter (fun n => l.contains n) = R) (0, 1, []) ⟨Nat.zero_le _, Nat.zero_le _, by simpa using hR⟩ (by simp) ?_
  intro ⟨i, ver, acc⟩ Q' ⟨hi, hal, hc⟩ hq he hr
  dsimp only at hi hal hc
  try simp 
  refine CondK.intro (fun h1 => ?_) (fun h1 => ?_)
  · simp at h1
    have h1' : i < 6 := by omega
    have hh := has1_c l i (sbig hl)
    rw [drop_cons (idsN 6) i (by rw [ids_len]; exact h1'), el_ids h1', List.filter_cons] at hc
    generalize l.contains (i : Int) = b at hh hc
    try simp 
    repeat' (first
      | (refine CallX.pure (hh) (by simp) (by simp) ?_; try simp )
      | (refine CallK.intro (hh) (by simp) (by simp) ?_; try simp )
      | (refine CallG.intro (fun _ => hh) (by simp) (by simp) ?_; try simp )
      | ((with_reducible refine PreK.intro ?_ ?_); (next => (first | omega | (intros; first | omega | (refine ⟨by omega, ?_⟩; repeat (first | assumption | constructor)) | assumption))); intro _; try simp )
      | fail)
    cases b with
    | true =>
      simp only [if_true] at hc
      refine CondK.tt ?_
      try simp 
      repeat (refine PreK.intro (by first | omega | (intros; first | omega | (refine ⟨by omega, ?_⟩; simp_all; done) | (simp_all; done) | (simp_all; omega))) fun _ => ?_; (try simp ))
      exact hq (i + 1, ver + 1, acc ++ [(i : Int)]) _ ⟨by dsimp only; omega, by simp; omega, by simpa using hc⟩ (by dsimp only; omega) (by simp)
    | false =>
      simp only [Bool.false_eq_true, if_false] at hc
      refine CondK.ff ?_
      try simp 
      repeat (refine PreK.intro (by first | omega | (intros; first | omega | (refine ⟨by omega, ?_⟩; simp_all; done) | (simp_all; done) | (simp_all; omega))) fun _ => ?_; (try simp ))
      exact hq (i + 1, ver, acc) _ ⟨by dsimp only; omega, by dsimp only; omega, hc⟩ (by dsimp only; omega) (by simp)
  · simp at h1
    rw [List.drop_eq_nil_of_le (by rw [ids_len]; omega)] at hc
    simp only [List.filter_nil, List.append_nil] at hc
    subst hc
    try simp 
    apply he
    repeat (refine PreK.intro (by first | omega | (intros; first | omega | (refine ⟨by omega, ?_⟩; simp_all; done) | (simp_all; done) | (simp_all; omega))) fun _ => ?_; (try simp ))
/-- What is left of sounds from a first one on. -/
def dW (s : Int) (b : Bool) (l : List Int) : List Int := if b then l else l.dropWhile fun x => !decide (x = s)
theorem dW_cons (s : Int) (b : Bool) (x : Int) (l : List Int) : dW s b (x :: l) = if b || decide (x = s) then x :: dW s true l else dW s false l := by
  unfold dW
  cases b with
  | true => simp
  | false =>
    by_cases h : x = s
    · simp [h]
    · simp [h, List.dropWhile_cons]
theorem rstand_c (t : Tab) (h : TabOK t) (s : Int) (r : Nat) (hr : r < t.length) : CallP Tryz.prog 53 [tabV t, pairV (s, (r : Int))] (ints (srtM (segM t s r))) := by
  refine C53 (by simp) ?_
  have hl := h.len
  have hn := h.num
  have hsl : (segM t s r).length ≤ 6 := six_len (seg_nd h s r) fun x hx => seg_val h hx
  have hso := rsorted_c (segM t s r) (by omega)
  generalize hG : segM t s r = G at *
  have h0 : dW s false ((t.take (r + 1)).flatten) = G := by rw [← hG]; rfl
  clear hG
  have hrow : ∀ i, (el t i).length ≤ 6 := by
    intro i
    by_cases hi : i < t.length
    · have h3 : (el t i).Sublist t.flatten := by
        have : t.flatten = (t.take i).flatten ++ (el t i ++ (t.drop (i + 1)).flatten) := by
          conv => lhs; rw [← List.take_append_drop i t, drop_cons t i hi]
          simp
        rw [this]
        exact (List.sublist_append_left _ _).trans (List.sublist_append_right _ _)
      have := h3.length_le
      omega
    · unfold Go.Abs.el
      rw [List.getD_eq_getElem?_getD, List.getElem?_eq_none (by omega)]; simp [default]
  simp [A53]
  refine LoopK.by (ι := Nat × Bool × Nat × List Int) (fun x => ⟨[(7, iv x.1), (6, bv x.2.1), (5, .sl 5 x.2.2.1 0 x.2.2.2.length), (3, .pt 3 1 0 0), (0, tabV t)], [(5, some ⟨1, x.2.2.2.map iv, x.2.2.1, false⟩), (3, some ⟨2, [.agg [iv s, iv r]], 1, true⟩)]⟩) (fun x => r + 1 - x.1)
    (fun x => x.1 ≤ r + 1 ∧ x.2.2.2 ++ dW s x.2.1 (((t.take (r + 1)).drop x.1).flatten) = G) (0, false, 1, []) ⟨Nat.zero_le _, by simpa using h0⟩ (by simp) ?_
  intro ⟨i, bg, ver, acc⟩ Q' ⟨hi, hc⟩ hq he hr'
  dsimp only at hi hc
  try simp 
  refine CondK.intro (fun h1 => ?_) (fun h1 => ?_)
  · simp at h1
    have hit : i < t.length := by omega
    have hri := hrow i
    have hel : el (t.take (r + 1)) i = el t i := by simp [el, List.getD_eq_getElem?_getD, List.getElem?_take, show i < r + 1 by omega]
    rw [drop_cons (t.take (r + 1)) i (by rw [List.length_take]; omega), hel, List.flatten_cons] at hc
    generalize hrest : ((t.take (r + 1)).drop (i + 1)).flatten = rest at hc
    try simp [hit]
    repeat (refine PreK.intro (by first | omega | (intros; first | omega | (refine ⟨by omega, ?_⟩; simp_all; done) | (simp_all; done) | (simp_all; omega))) fun _ => ?_; (try simp [hit]))
    refine LoopK.by (ι := Nat × Bool × Nat × List Int) (fun x => ⟨[(8, iv x.1), (7, iv i), (6, bv x.2.1), (5, .sl 5 x.2.2.1 0 x.2.2.2.length), (3, .pt 3 1 0 0), (0, tabV t)], [(5, some ⟨1, x.2.2.2.map iv, x.2.2.1, false⟩), (3, some ⟨2, [.agg [iv s, iv r]], 1, true⟩)]⟩) (fun x => (el t i).length - x.1)
      (fun x => x.1 ≤ (el t i).length ∧ x.2.2.2 ++ dW s x.2.1 ((el t i).drop x.1 ++ rest) = G) (0, bg, ver, acc) ⟨Nat.zero_le _, hc⟩ (by simp) ?_
    intro ⟨k, b2, v2, ac2⟩ Q2 ⟨hk, hc2⟩ hq2 he2 hr2
    dsimp only at hk hc2
    have hlen := congrArg List.length hc2
    simp only [List.length_append] at hlen
    try simp [hit]
    repeat (refine PreK.intro (by first | omega | (intros; first | omega | (refine ⟨by omega, ?_⟩; simp_all; done) | (simp_all; done) | (simp_all; omega))) fun _ => ?_; (try simp [hit]))
    refine CondK.intro (fun h2 => ?_) (fun h2 => ?_)
    · simp at h2
      rw [drop_cons (el t i) k h2, List.cons_append, dW_cons] at hc2
      cases b2 with
      | true =>
        simp only [Bool.true_or, if_true] at hc2
        try simp [hit, h2]
        repeat (refine PreK.intro (by first | omega | (intros; first | omega | (refine ⟨by omega, ?_⟩; simp_all; done) | (simp_all; done) | (simp_all; omega))) fun _ => ?_; (try simp [hit, h2]))
        refine CondK.tt ?_
        try simp 
        try simp [hit, h2]
        repeat (refine PreK.intro (by first | omega | (intros; first | omega | (refine ⟨by omega, ?_⟩; simp_all; done) | (simp_all; done) | (simp_all; omega))) fun _ => ?_; (try simp [hit, h2]))
        exact hq2 (k + 1, true, v2 + 1, ac2 ++ [el (el t i) k]) _ ⟨by dsimp only; omega, by simpa using hc2⟩ (by dsimp only; omega) (by simp)
      | false =>
        simp only [Bool.false_or, decide_eq_true_eq] at hc2
        by_cases h3 : el (el t i) k = s
        · rw [if_pos h3] at hc2
          try simp [hit, h2, h3]
          repeat (refine PreK.intro (by first | omega | (intros; first | omega | (refine ⟨by omega, ?_⟩; simp_all; done) | (simp_all; done) | (simp_all; omega))) fun _ => ?_; (try simp [hit, h2, h3]))
          refine CondK.tt ?_
          try simp 
          try simp [hit, h2, h3]
          repeat (refine PreK.intro (by first | omega | (intros; first | omega | (refine ⟨by omega, ?_⟩; simp_all; done) | (simp_all; done) | (simp_all; omega))) fun _ => ?_; (try simp [hit, h2, h3]))
          exact hq2 (k + 1, true, v2 + 1, ac2 ++ [el (el t i) k]) _ ⟨by dsimp only; omega, by simpa using hc2⟩ (by dsimp only; omega) (by simp [h3])
        · rw [if_neg h3] at hc2
          try simp [hit, h2, h3]
          repeat (refine PreK.intro (by first | omega | (intros; first | omega | (refine ⟨by omega, ?_⟩; simp_all; done) | (simp_all; done) | (simp_all; omega))) fun _ => ?_; (try simp [hit, h2, h3]))
          refine CondK.ff ?_
          try simp 
          try simp [hit, h2, h3]
          repeat (refine PreK.intro (by first | omega | (intros; first | omega | (refine ⟨by omega, ?_⟩; simp_all; done) | (simp_all; done) | (simp_all; omega))) fun _ => ?_; (try simp [hit, h2, h3]))
          exact hq2 (k + 1, false, v2, ac2) _ ⟨by dsimp only; omega, hc2⟩ (by dsimp only; omega) (by simp)
    · simp at h2
      rw [List.drop_eq_nil_of_le (by omega), List.nil_append] at hc2
      try simp 
      apply he2
      repeat (refine PreK.intro (by first | omega | (intros; first | omega | (refine ⟨by omega, ?_⟩; simp_all; done) | (simp_all; done) | (simp_all; omega))) fun _ => ?_; (try simp ))
      exact hq (i + 1, b2, v2, ac2) _ ⟨by dsimp only; omega, by dsimp only; rw [hrest]; exact hc2⟩ (by dsimp only; omega) (by simp)
  · simp at h1
    have : i = r + 1 := by omega
    subst this
    have e0 : dW s bg [] = [] := by unfold dW; cases bg <;> rfl
    rw [List.drop_eq_nil_of_le (by rw [List.length_take]; omega), List.flatten_nil, e0, List.append_nil] at hc
    subst hc
    try simp 
    apply he
    repeat (refine PreK.intro (by first | omega | (intros; first | omega | (refine ⟨by omega, ?_⟩; simp_all; done) | (simp_all; done) | (simp_all; omega))) fun _ => ?_; (try simp ))
    refine CallX.frz 5 (b := ⟨1, acc.map iv, ver, false⟩) (by simp) (by simp) ?_
    refine CallX.pure (by simpa using hso) (by simp) (by simp) ?_
    repeat (refine PreK.intro (by first | omega | (intros; first | omega | (refine ⟨by omega, ?_⟩; simp_all; done) | (simp_all; done) | (simp_all; omega))) fun _ => ?_; (try simp ))
theorem rnames_c (t : Tab) (h : TabOK t) : CallP Tryz.prog 52 [tabV t] (namesV (namesM t)) := by
  refine C52 (by simp) ?_
  have hn := h.num
  have hnn := names_num h
  have hsm : Sm t := ⟨by omega, fun r hr => by
    obtain ⟨i, hi, rfl⟩ := List.getElem_of_mem hr
    have h3 : t[i].Sublist t.flatten := List.sublist_flatten_of_mem (List.getElem_mem hi)
    have := h3.length_le
    have := h.len
    omega⟩
  have hrw := fun s => rrow_c t s hsm
  generalize hR : namesM t = R at *
  unfold namesM at hR
  rw [six_ids] at hR
  simp [A52]
  refine LoopK.by (ι := Nat × Nat × List (Int × Int)) (fun x => ⟨[(4, iv x.1), (3, .sl 3 x.2.1 0 x.2.2.length), (0, tabV t)], [(3, some ⟨2, x.2.2.map pairV, x.2.1, false⟩)]⟩) (fun x => 6 - x.1) (fun x => x.1 ≤ 6 ∧ x.2.2 ++ ((idsN 6).drop x.1).flatMap (namesS t) = R) (0, 1, []) ⟨Nat.zero_le _, by simpa using hR⟩ (by simp) ?_
  intro ⟨i, ver, acc⟩ Q' ⟨hi, hc⟩ hq he hr
  dsimp only at hi hc
  try simp 
  refine CondK.intro (fun h1 => ?_) (fun h1 => ?_)
  · simp at h1
    have h1' : i < 6 := by omega
    have hrs := hrw (i : Int)
    rw [drop_cons (idsN 6) i (by rw [ids_len]; exact h1'), el_ids h1', List.flatMap_cons] at hc
    rw [show namesS t (i : Int) = if 0 ≤ rowI (i : Int) 0 t then rangeP (i : Int) (rowI (i : Int) 0 t).toNat t.length else [] from rfl] at hc
    by_cases h2 : 0 ≤ rowI (i : Int) 0 t
    · obtain ⟨k0, hk0⟩ : ∃ k : Nat, rowI (i : Int) 0 t = k := ⟨(rowI (i : Int) 0 t).toNat, by omega⟩
      rw [if_pos h2, hk0, Int.toNat_natCast] at hc
      rw [hk0] at hrs
      have hkl : k0 < t.length := by
        have := (row_lt t ((row_mem t i).2 h2)).2
        omega
      try simp 
      repeat' (first
        | (refine CallX.pure (hrs) (by simp) (by simp) ?_; try simp )
        | (refine CallK.intro (hrs) (by simp) (by simp) ?_; try simp )
        | (refine CallG.intro (fun _ => hrs) (by simp) (by simp) ?_; try simp )
        | ((with_reducible refine PreK.intro ?_ ?_); (next => (first | omega | (intros; first | omega | (refine ⟨by omega, ?_⟩; repeat (first | assumption | constructor)) | assumption))); intro _; try simp )
        | fail)
      try simp 
      repeat (refine PreK.intro (by first | omega | (intros; first | omega | (refine ⟨by omega, ?_⟩; simp_all; done) | (simp_all; done) | (simp_all; omega))) fun _ => ?_; (try simp ))
      refine CondK.tt ?_
      try simp 
      try simp 
      repeat (refine PreK.intro (by first | omega | (intros; first | omega | (refine ⟨by omega, ?_⟩; simp_all; done) | (simp_all; done) | (simp_all; omega))) fun _ => ?_; (try simp ))
      refine LoopK.by (ι := Nat × Nat × List (Int × Int)) (fun x => ⟨[(6, iv x.1), (4, iv i), (3, .sl 3 x.2.1 0 x.2.2.length), (0, tabV t)], [(3, some ⟨2, x.2.2.map pairV, x.2.1, false⟩)]⟩) (fun x => t.length - x.1)
        (fun x => x.1 ≤ t.length ∧ x.2.2 ++ (rangeP (i : Int) x.1 t.length ++ ((idsN 6).drop (i + 1)).flatMap (namesS t)) = R) (k0, ver, acc) ⟨by dsimp only; omega, by simpa using hc⟩ (by simp) ?_
      intro ⟨k, v2, ac2⟩ Q2 ⟨hk2, hc2⟩ hq2 he2 hr2
      dsimp only at hk2 hc2
      have hlen := congrArg List.length hc2
      simp only [List.length_append] at hlen
      try simp 
      refine CondK.intro (fun h3 => ?_) (fun h3 => ?_)
      · simp at h3
        have e1 : rangeP (i : Int) k t.length = ((i : Int), (k : Int)) :: rangeP (i : Int) (k + 1) t.length := by
          unfold rangeP
          rw [show t.length - k = (t.length - (k + 1)) + 1 by omega, List.range'_succ]
          rfl
        rw [e1, List.cons_append] at hc2
        repeat (refine PreK.intro (by first | omega | (intros; first | omega | (refine ⟨by omega, ?_⟩; simp_all; done) | (simp_all; done) | (simp_all; omega))) fun _ => ?_; (try simp ))
        exact hq2 (k + 1, v2 + 1, ac2 ++ [((i : Int), (k : Int))]) _ ⟨by dsimp only; omega, by simpa using hc2⟩ (by dsimp only; omega) (by simp)
      · simp at h3
        have e1 : rangeP (i : Int) k t.length = [] := by
          unfold rangeP
          rw [show t.length - k = 0 by omega]
          rfl
        rw [e1, List.nil_append] at hc2
        try simp 
        apply he2
        repeat (refine PreK.intro (by first | omega | (intros; first | omega | (refine ⟨by omega, ?_⟩; simp_all; done) | (simp_all; done) | (simp_all; omega))) fun _ => ?_; (try simp ))
        exact hq (i + 1, v2, ac2) _ ⟨by dsimp only; omega, hc2⟩ (by dsimp only; omega) (by simp)
    · rw [if_neg h2, List.nil_append] at hc
      have h2' : ¬ 0 ≤ rowI (i : Int) 0 t := h2
      generalize rowI (i : Int) 0 t = q at *
      try simp 
      repeat' (first
        | (refine CallX.pure (hrs) (by simp) (by simp) ?_; try simp )
        | (refine CallK.intro (hrs) (by simp) (by simp) ?_; try simp )
        | (refine CallG.intro (fun _ => hrs) (by simp) (by simp) ?_; try simp )
        | ((with_reducible refine PreK.intro ?_ ?_); (next => (first | omega | (intros; first | omega | (refine ⟨by omega, ?_⟩; repeat (first | assumption | constructor)) | assumption))); intro _; try simp )
        | fail)
      try simp [h2']
      repeat (refine PreK.intro (by first | omega | (intros; first | omega | (refine ⟨by omega, ?_⟩; simp_all; done) | (simp_all; done) | (simp_all; omega))) fun _ => ?_; (try simp [h2']))
      refine CondK.ff ?_
      try simp 
      repeat (refine PreK.intro (by first | omega | (intros; first | omega | (refine ⟨by omega, ?_⟩; simp_all; done) | (simp_all; done) | (simp_all; omega))) fun _ => ?_; (try simp ))
      exact hq (i + 1, ver, acc) _ ⟨by dsimp only; omega, hc⟩ (by dsimp only; omega) (by simp)
  · simp at h1
    rw [List.drop_eq_nil_of_le (by rw [ids_len]; omega)] at hc
    simp only [List.flatMap_nil, List.append_nil] at hc
    subst hc
    try simp 
    apply he
    repeat (refine PreK.intro (by first | omega | (intros; first | omega | (refine ⟨by omega, ?_⟩; simp_all; done) | (simp_all; done) | (simp_all; omega))) fun _ => ?_; (try simp ))
end Go.Proofs.YtgfgkfkplidncaaGreat
end

section
/- Contracts: the document's families and orders; what is too long. -/
namespace Go.Proofs.YtgfgkfkplidncaaGreat
open Go.Abs Go
set_option maxRecDepth 20000
set_option maxHeartbeats 2000000
attribute [local irreducible] PreK CondK CallK CallG CallX LoopK
attribute [local simp] avsEq avEq akind teq vkind vEq

theorem rValidateFamily_c (n : Int) (f : List (List Int)) (h : Sm f) : CallP Tryz.prog 59 [iv n, tabV f] (iv (famErr n f)) := by
  refine C59 (by simp) ?_
  have hn := h.num
  generalize hR : famErr n f = R
  unfold famErr at hR
  simp [A59]
  have hw := within1_c n 1 6
  generalize hb : (decide (1 ≤ n) && decide (n ≤ 6)) = b at hR hw
  cases b with
  | false =>
    try simp 
    repeat' (first
      | (refine CallX.pure (hw) (by simp) (by simp) ?_; try simp )
      | (refine CallK.intro (hw) (by simp) (by simp) ?_; try simp )
      | (refine CallG.intro (fun _ => hw) (by simp) (by simp) ?_; try simp )
      | ((with_reducible refine PreK.intro ?_ ?_); (next => (first | omega | (intros; first | omega | (refine ⟨by omega, ?_⟩; repeat (first | assumption | constructor)) | assumption))); intro _; try simp )
      | fail)
    refine CondK.tt ?_
    try simp 
    simpa using hR
  | true =>
    simp only [Bool.and_eq_true, decide_eq_true_eq] at hb
    simp only [Bool.not_true, Bool.false_eq_true, if_false] at hR
    try simp 
    repeat' (first
      | (refine CallX.pure (hw) (by simp) (by simp) ?_; try simp )
      | (refine CallK.intro (hw) (by simp) (by simp) ?_; try simp )
      | (refine CallG.intro (fun _ => hw) (by simp) (by simp) ?_; try simp )
      | ((with_reducible refine PreK.intro ?_ ?_); (next => (first | omega | (intros; first | omega | (refine ⟨by omega, ?_⟩; repeat (first | assumption | constructor)) | assumption))); intro _; try simp )
      | fail)
    refine CondK.ff ?_
    try simp 
    try simp 
    refine CondK.intro (fun h1 => ?_) (fun h1 => ?_)
    · simp at h1
      rw [if_pos (by omega)] at hR
      try simp 
      exact hR
    · simp at h1
      rw [if_neg (by omega)] at hR
      try simp 
      refine LoopK.by (fun i : Nat => ⟨[(5, iv i), (1, tabV f), (0, iv n)], []⟩) (fun i => f.length - i) (fun i => i ≤ f.length ∧ (if (f.drop i).any (famBad n) = true then 1 else 0) = R) 0 (by simpa using hR) (by simp) ?_
      intro i Q' ⟨hi, hc⟩ hq he hr
      try simp 
      refine CondK.intro (fun h2 => ?_) (fun h2 => ?_)
      · simp at h2
        have hel := h.el i
        rw [drop_cons f i h2, List.any_cons] at hc
        have hs := rIsSet_c (el f i) (n - 1) (by omega) (by omega)
        unfold famBad at hc
        generalize setG (n - 1) none (el f i) = b at hs hc
        by_cases h3 : el f i = []
        · simp only [h3, decide_true, Bool.true_or, if_true] at hc
          try simp [h2, h3]
          repeat (refine PreK.intro (by first | omega | (intros; first | omega | (refine ⟨by omega, ?_⟩; simp_all; done) | (simp_all; done) | (simp_all; omega))) fun _ => ?_; (try simp [h2, h3]))
          refine CallG.intro (r := bv true) (fun hh => by cases hh) (by simp) (by simp) ?_
          try simp 
          repeat (refine PreK.intro (by first | omega | (intros; first | omega | (refine ⟨by omega, ?_⟩; simp_all; done) | (simp_all; done) | (simp_all; omega))) fun _ => ?_; (try simp ))
          refine CondK.tt ?_
          try simp 
          apply hr
          simp [hc]
        · have h3' : ¬ (el f i).length = 0 := fun e => h3 (List.eq_nil_of_length_eq_zero e)
          simp only [h3, decide_false, Bool.false_or] at hc
          try simp [h2, h3, h3']
          repeat' (first
            | (refine CallX.pure (hs) (by simp) (by simp) ?_; try simp [h2, h3, h3'])
            | (refine CallK.intro (hs) (by simp) (by simp) ?_; try simp [h2, h3, h3'])
            | (refine CallG.intro (fun _ => hs) (by simp) (by simp) ?_; try simp [h2, h3, h3'])
            | ((with_reducible refine PreK.intro ?_ ?_); (next => (first | omega | (intros; first | omega | (refine ⟨by omega, ?_⟩; repeat (first | assumption | constructor)) | assumption))); intro _; try simp [h2, h3, h3'])
            | fail)
          refine CondK.intro (fun h4 => ?_) (fun h4 => ?_)
          · rw [h4] at hc
            simp only [Bool.true_or, if_true] at hc
            try simp 
            apply hr
            simp [hc]
          · rw [h4] at hc
            simp only [Bool.false_or] at hc
            repeat (refine PreK.intro (by first | omega | (intros; first | omega | (refine ⟨by omega, ?_⟩; simp_all; done) | (simp_all; done) | (simp_all; omega))) fun _ => ?_; (try simp ))
            exact hq (i + 1) _ ⟨by omega, hc⟩ (by omega) (by simp)
      · simp at h2
        rw [List.drop_eq_nil_of_le (by omega)] at hc
        simp only [List.any_nil, Bool.false_eq_true, if_false] at hc
        try simp 
        apply he
        try simp 
        exact hc
def ordErr (n : Int) (f : List (List Int)) (o : List Int) : Int := if famErr n f ≠ 0 then famErr n f else if isOrdB o n then 0 else 1
theorem ordErr_zero {n : Int} {f : List (List Int)} {o : List Int} (h : ordErr n f o = 0) : ∃ k : Nat, n = k ∧ FamOK k f ∧ OrdOK k o := by
  unfold ordErr at h
  split at h
  · rename_i h1; exact absurd h h1
  · rename_i h1
    obtain ⟨k, rfl, hf⟩ := famErr_zero (by simpa using h1)
    split at h
    · rename_i h2; exact ⟨k, rfl, hf, isOrd_iff.1 h2⟩
    · cases h
theorem ordered_c (n : Int) (f : List (List Int)) (o : List Int) (h : Sm f) (ho : o.length ≤ 100) : CallP Tryz.prog 70 [iv n, tabV f, ints o] (iv (ordErr n f o)) := by
  refine C70 (by simp) ?_
  have hv := ValidateFamily_c n f h
  have hi := isOrder_c o n (by omega)
  unfold ordErr
  generalize famErr n f = e at *
  generalize isOrdB o n = b at *
  simp [A70]
  try simp 
  repeat' (first
    | (refine CallX.pure (hv) (by simp) (by simp) ?_; try simp )
    | (refine CallK.intro (hv) (by simp) (by simp) ?_; try simp )
    | (refine CallG.intro (fun _ => hv) (by simp) (by simp) ?_; try simp )
    | ((with_reducible refine PreK.intro ?_ ?_); (next => (first | omega | (intros; first | omega | (refine ⟨by omega, ?_⟩; repeat (first | assumption | constructor)) | assumption))); intro _; try simp )
    | fail)
  refine CondK.intro (fun h1 => ?_) (fun h1 => ?_)
  · simp at h1
    simp [h1]
  · simp at h1
    subst h1
    try simp 
    repeat' (first
      | (refine CallX.pure (hi) (by simp) (by simp) ?_; try simp )
      | (refine CallK.intro (hi) (by simp) (by simp) ?_; try simp )
      | (refine CallG.intro (fun _ => hi) (by simp) (by simp) ?_; try simp )
      | ((with_reducible refine PreK.intro ?_ ?_); (next => (first | omega | (intros; first | omega | (refine ⟨by omega, ?_⟩; repeat (first | assumption | constructor)) | assumption))); intro _; try simp )
      | fail)
    cases b with
    | false =>
      refine CondK.tt ?_
      try simp 
      repeat (refine PreK.intro (by first | omega | (intros; first | omega | (refine ⟨by omega, ?_⟩; simp_all; done) | (simp_all; done) | (simp_all; omega))) fun _ => ?_; (try simp ))
    | true =>
      refine CondK.ff ?_
      try simp 
      repeat (refine PreK.intro (by first | omega | (intros; first | omega | (refine ⟨by omega, ?_⟩; simp_all; done) | (simp_all; done) | (simp_all; omega))) fun _ => ?_; (try simp ))
theorem rordered_c (n : Int) (f : List (List Int)) (o : List Int) (h : Sm f) (ho : o.length ≤ 100) : CallP Tryz.prog 72 [iv n, tabV f, ints o] (iv (ordErr n f o)) := by
  refine C72 (by simp) ?_
  have hv := rValidateFamily_c n f h
  have hi := risOrder_c o n (by omega)
  unfold ordErr
  generalize famErr n f = e at *
  generalize isOrdB o n = b at *
  simp [A72]
  try simp 
  repeat' (first
    | (refine CallX.pure (hv) (by simp) (by simp) ?_; try simp )
    | (refine CallK.intro (hv) (by simp) (by simp) ?_; try simp )
    | (refine CallG.intro (fun _ => hv) (by simp) (by simp) ?_; try simp )
    | ((with_reducible refine PreK.intro ?_ ?_); (next => (first | omega | (intros; first | omega | (refine ⟨by omega, ?_⟩; repeat (first | assumption | constructor)) | assumption))); intro _; try simp )
    | fail)
  refine CondK.intro (fun h1 => ?_) (fun h1 => ?_)
  · simp at h1
    simp [h1]
  · simp at h1
    subst h1
    try simp 
    repeat' (first
      | (refine CallX.pure (hi) (by simp) (by simp) ?_; try simp )
      | (refine CallK.intro (hi) (by simp) (by simp) ?_; try simp )
      | (refine CallG.intro (fun _ => hi) (by simp) (by simp) ?_; try simp )
      | ((with_reducible refine PreK.intro ?_ ?_); (next => (first | omega | (intros; first | omega | (refine ⟨by omega, ?_⟩; repeat (first | assumption | constructor)) | assumption))); intro _; try simp )
      | fail)
    cases b with
    | false =>
      refine CondK.tt ?_
      try simp 
      repeat (refine PreK.intro (by first | omega | (intros; first | omega | (refine ⟨by omega, ?_⟩; simp_all; done) | (simp_all; done) | (simp_all; omega))) fun _ => ?_; (try simp ))
    | true =>
      refine CondK.ff ?_
      try simp 
      repeat (refine PreK.intro (by first | omega | (intros; first | omega | (refine ⟨by omega, ?_⟩; simp_all; done) | (simp_all; done) | (simp_all; omega))) fun _ => ?_; (try simp ))
theorem large_c (l : List Int) : CallP Tryz.prog 12 [ints l] (bv (decide (100 < l.length))) := by
  refine C12 (by simp) ?_
  simp [A12]
  omega
def longT (t : List (List Int)) : Bool := decide (50 < t.length) || t.any fun r => decide (100 < r.length)
theorem longT_small {t : List (List Int)} (h : longT t = false) : Sm t := by
  unfold longT at h
  simp only [Bool.or_eq_false_iff, decide_eq_false_iff_not, List.any_eq_false, decide_eq_true_eq] at h
  exact ⟨by omega, fun r hr => by have := h.2 r hr; omega⟩
theorem Long_c (t : List (List Int)) (hb : t.length ≤ big) : CallP Tryz.prog 11 [tabV t] (bv (longT t)) := by
  refine C11 (by simp) ?_
  generalize hR : longT t = R
  unfold longT at hR
  simp [A11]
  refine CondK.intro (fun h1 => ?_) (fun h1 => ?_)
  · simp at h1
    have h1' : 50 < t.length := by omega
    simp only [h1', decide_true, Bool.true_or] at hR
    try simp 
    first | exact hR | exact hR.symm
  · simp at h1
    have h1' : ¬ 50 < t.length := by omega
    simp only [h1', decide_false, Bool.false_or] at hR
    try simp 
    refine LoopK.by (fun i : Nat => ⟨[(3, iv i), (0, tabV t)], []⟩) (fun i => t.length - i) (fun i => i ≤ t.length ∧ ((t.drop i).any fun r => decide (100 < r.length)) = R) 0 (by simpa using hR) (by simp) ?_
    intro i Q' ⟨hi, hc⟩ hq he hr'
    try simp 
    refine CondK.intro (fun h2 => ?_) (fun h2 => ?_)
    · simp at h2
      have hlg := large_c (el t i)
      rw [drop_cons t i h2, List.any_cons] at hc
      generalize decide (100 < (el t i).length) = b at hlg hc
      try simp [h2]
      repeat' (first
        | (refine CallX.pure (hlg) (by simp) (by simp) ?_; try simp [h2])
        | (refine CallK.intro (hlg) (by simp) (by simp) ?_; try simp [h2])
        | (refine CallG.intro (fun _ => hlg) (by simp) (by simp) ?_; try simp [h2])
        | ((with_reducible refine PreK.intro ?_ ?_); (next => (first | omega | (intros; first | omega | (refine ⟨by omega, ?_⟩; repeat (first | assumption | constructor)) | assumption))); intro _; try simp [h2])
        | fail)
      cases b with
      | true =>
        refine CondK.tt ?_
        try simp 
        apply hr'
        simpa using hc
      | false =>
        refine CondK.ff ?_
        try simp 
        repeat (refine PreK.intro (by first | omega | (intros; first | omega | (refine ⟨by omega, ?_⟩; simp_all; done) | (simp_all; done) | (simp_all; omega))) fun _ => ?_; (try simp ))
        exact hq (i + 1) _ ⟨by omega, by simpa using hc⟩ (by omega) (by simp)
    · simp at h2
      rw [List.drop_eq_nil_of_le (by omega)] at hc
      simp only [List.any_nil] at hc
      try simp 
      apply he
      try simp 
      first | exact hc | exact hc.symm
end Go.Proofs.YtgfgkfkplidncaaGreat
end

section
/- Contracts: what the program and the document say of a table: sounds, rows, names, classes. -/
namespace Go.Proofs.YtgfgkfkplidncaaGreat
open Go.Abs Go
set_option maxRecDepth 20000
set_option maxHeartbeats 2000000
attribute [local irreducible] PreK CondK CallK CallG CallX LoopK
attribute [local simp] avsEq avEq akind teq vkind vEq

theorem tab_sm {t : Tab} (h : TabOK t) : Sm t := by
  have h1 := h.num
  refine ⟨by omega, fun r hr => ?_⟩
  have h3 : r.Sublist t.flatten := List.sublist_flatten_of_mem hr
  have := h3.length_le
  have := h.len
  omega
def ClassesE (t : Tab) : List (List Int) × Int := if tabErr t ≠ 0 then ([], tabErr t) else (classesM t, 0)
theorem Classes_c (t : Tab) (h : Sm t) : CallP Tryz.prog 25 [tabV t] (.tup [tabV (ClassesE t).1, iv (ClassesE t).2]) := by
  refine C25 (by simp) ?_
  have hv := Validate_c t h
  unfold ClassesE
  by_cases h0 : tabErr t = 0
  · have hlo := classes_c t (tabErr_zero.1 h0)
    rw [h0] at hv ⊢
    generalize classesM t = L at *
    simp [A25]
    try simp 
    repeat' (first
      | (refine CallX.pure (hv) (by simp) (by simp) ?_; try simp )
      | (refine CallK.intro (hv) (by simp) (by simp) ?_; try simp )
      | (refine CallG.intro (fun _ => hv) (by simp) (by simp) ?_; try simp )
      | ((with_reducible refine PreK.intro ?_ ?_); (next => (first | omega | (intros; first | omega | (refine ⟨by omega, ?_⟩; repeat (first | assumption | constructor)) | assumption))); intro _; try simp )
      | fail)
    refine CondK.ff ?_
    try simp 
    try simp 
    repeat' (first
      | (refine CallX.pure (hlo) (by simp) (by simp) ?_; try simp )
      | (refine CallK.intro (hlo) (by simp) (by simp) ?_; try simp )
      | (refine CallG.intro (fun _ => hlo) (by simp) (by simp) ?_; try simp )
      | ((with_reducible refine PreK.intro ?_ ?_); (next => (first | omega | (intros; first | omega | (refine ⟨by omega, ?_⟩; repeat (first | assumption | constructor)) | assumption))); intro _; try simp )
      | fail)
    repeat (refine PreK.intro (by first | omega | (intros; first | omega | (refine ⟨by omega, ?_⟩; simp_all; done) | (simp_all; done) | (simp_all; omega))) fun _ => ?_; (try simp ))
  · rw [if_pos h0]
    generalize tabErr t = e at *
    simp [A25]
    try simp 
    repeat' (first
      | (refine CallX.pure (hv) (by simp) (by simp) ?_; try simp )
      | (refine CallK.intro (hv) (by simp) (by simp) ?_; try simp )
      | (refine CallG.intro (fun _ => hv) (by simp) (by simp) ?_; try simp )
      | ((with_reducible refine PreK.intro ?_ ?_); (next => (first | omega | (intros; first | omega | (refine ⟨by omega, ?_⟩; repeat (first | assumption | constructor)) | assumption))); intro _; try simp )
      | fail)
    refine CondK.intro (fun h1 => ?_) (fun h1 => ?_)
    · repeat (refine PreK.intro (by first | omega | (intros; first | omega | (refine ⟨by omega, ?_⟩; simp_all; done) | (simp_all; done) | (simp_all; omega))) fun _ => ?_; (try simp ))
    · simp at h1
      exact absurd h1 h0
theorem stand_srt {t : Tab} (h : TabOK t) (s : Int) (r : Nat) : standM t s r = srtM (segM t s r) := srtM_eq (seg_nd h s r) fun x hx => seg_val h hx
end Go.Proofs.YtgfgkfkplidncaaGreat
end
