/- Part 7 of the proof: the value layer and the contracts of the functions that the statement reaches; proved without conditions beyond those each theorem states. -/
import Derived.Shelf.SlSortCmp.Whole1
import Derived.Shelf.SlSortCmp.NoneTotal
import Derived.Test.YtgfgkfkplidncaaGreatProg
import Derived.Shelf.Sort.Plain
import Derived.Shelf.Slices.In.SortNone
import Derived.Shelf.SlSortCmp.WholeK
import Derived.Test.YtgfgkfkplidncaaGreatV6
set_option linter.unusedSimpArgs false
set_option linter.unusedVariables false

section
/- Functions of the cut as the value layer reads them. (written by gen.py) -/
set_option maxRecDepth 20000
namespace Go.Proofs.YtgfgkfkplidncaaGreat
open Go.Abs Go

def A73 : ACode :=
  (.seq (.reg [] [⟨some 6, (.assign (.const (.bool false))), 4, none⟩])
    (.seq (.reg [] [⟨some 7, (.move (.tmp 0)), 3, none⟩,
      ⟨some 8, (.move (.tmp 1)), 3, none⟩,
      ⟨some 9, (.binOp .geq 3 (.tmp 7) (.tmp 8) 3), 4, none⟩,
      ⟨some 10, (.move (.tmp 9)), 4, none⟩,
      ⟨some 11, (.move (.tmp 0)), 3, some (10, true)⟩,
      ⟨some 12, (.move (.tmp 2)), 3, some (10, true)⟩,
      ⟨some 13, (.binOp .leq 3 (.tmp 11) (.tmp 12) 3), 4, some (10, true)⟩,
      ⟨some 14, (.pick (.tmp 10) (.tmp 13) (.const (.bool false))), 4, none⟩,
      ⟨some 6, (.assign (.tmp 14)), 4, none⟩])
    .ret))
theorem C73 {args : List AV} {r : AV} (hn : args.length ≤ 15) (h : vc Tryz.prog T [] A73 (Fin T [(.tmp 6)] r) ⟨envOf 0 args, []⟩) : CallP Tryz.prog 73 args r :=
  callP_of tok mixed Tryz.func73 (by kernel_rfl) (by kernel_rfl) (by kernel_rfl : Tryz.f73.ntmps = 15) (by kernel_rfl : Tryz.f73.body.bind (strip 15 (fun _ => [])) = some A73) hn h
def A42 : ACode :=
  (.seq (.reg [] [⟨some 2, (.assign (.const (.int .i64 0))), 28, none⟩])
    (.seq (.seq (.reg [] [⟨some 6, (.move (.tmp 0)), 22, none⟩,
      ⟨some 7, (.call ⟨(.builtin .len), #[(.tmp 6)], #[22]⟩), 3, none⟩,
      ⟨some 8, (.call ⟨(.value (.func 73)), #[(.tmp 7), (.const (.int .i64 1)), (.const (.int .i64 6))], #[3, 3, 3]⟩), 4, none⟩,
      ⟨some 9, (.unOp .not 4 (.tmp 8)), 4, none⟩])
    (.cond (.tmp 9)
    (.seq (.reg [] [⟨some 2, (.assign (.const (.int .i64 3))), 28, none⟩])
    .ret)
    .skip))
    (.seq (.seq (.reg [] [⟨some 10, (.move (.tmp 0)), 22, none⟩,
      ⟨some 11, (.call ⟨(.builtin .len), #[(.tmp 10)], #[22]⟩), 3, none⟩,
      ⟨some 12, (.move (.const (.int .i64 0))), 3, none⟩])
    (.block 0 (.loop (.seq (.reg [] [⟨some 13, (.binOp .lss 3 (.tmp 12) (.tmp 11) 3), 0, none⟩])
    (.seq (.cond (.tmp 13)
    .skip
    (.exit 0))
    (.seq (.block 1 (.seq (.reg [] [⟨some 14, (.indexAddr 22 (.tmp 10) (.tmp 12)), 0, none⟩,
      ⟨some 15, (.load 23 (.tmp 14)), 23, none⟩,
      ⟨some 4, (.assign (.tmp 15)), 23, none⟩])
    (.seq (.reg [] [⟨some 16, (.move (.tmp 4)), 23, none⟩,
      ⟨some 17, (.call ⟨(.builtin .len), #[(.tmp 16)], #[23]⟩), 3, none⟩,
      ⟨some 18, (.binOp .eql 3 (.tmp 17) (.const (.int .i64 0)) 3), 4, none⟩,
      ⟨some 19, (.move (.tmp 18)), 4, none⟩,
      ⟨some 20, (.move (.tmp 4)), 23, some (19, false)⟩,
      ⟨some 21, (.call ⟨(.value (.func 81)), #[(.tmp 20), (.func 82)], #[23, 90]⟩), 4, some (19, false)⟩,
      ⟨some 22, (.pick (.tmp 19) (.const (.bool true)) (.tmp 21)), 4, none⟩])
    (.cond (.tmp 22)
    (.seq (.reg [] [⟨some 2, (.assign (.const (.int .i64 1))), 28, none⟩])
    .ret)
    .skip))))
    (.reg [] [⟨some 23, (.binOp .add 3 (.tmp 12) (.const (.int .i64 1)) 3), 3, none⟩,
      ⟨some 12, (.move (.tmp 23)), 3, none⟩])))))))
    (.seq (.reg [] [⟨some 24, (.move (.tmp 0)), 22, none⟩,
      ⟨some 25, (.call ⟨(.value (.func 75)), #[(.tmp 24)], #[22]⟩), 23, none⟩,
      ⟨some 5, (.assign (.tmp 25)), 23, none⟩])
    (.seq (.reg [] [⟨some 26, (.move (.tmp 5)), 23, none⟩,
      ⟨some 27, (.call ⟨(.value (.func 83)), #[(.tmp 26)], #[23]⟩), 0, none⟩])
    (.seq (.seq (.reg [] [⟨some 28, (.move (.tmp 5)), 23, none⟩,
      ⟨some 29, (.call ⟨(.value (.func 63)), #[(.tmp 28)], #[23]⟩), 23, none⟩,
      ⟨some 30, (.call ⟨(.value (.func 84)), #[(.tmp 29)], #[23]⟩), 23, none⟩,
      ⟨some 31, (.call ⟨(.builtin .len), #[(.tmp 30)], #[23]⟩), 3, none⟩,
      ⟨some 32, (.move (.tmp 5)), 23, none⟩,
      ⟨some 33, (.call ⟨(.builtin .len), #[(.tmp 32)], #[23]⟩), 3, none⟩,
      ⟨some 34, (.binOp .lss 3 (.tmp 31) (.tmp 33) 3), 4, none⟩])
    (.cond (.tmp 34)
    (.seq (.reg [] [⟨some 2, (.assign (.const (.int .i64 5))), 28, none⟩])
    .ret)
    .skip))
    (.seq (.reg [] [⟨some 2, (.assign (.const (.int .i64 0))), 28, none⟩])
    .ret)))))))
theorem C42 {args : List AV} {r : AV} (hn : args.length ≤ 35) (h : vc Tryz.prog T [] A42 (Fin T [(.tmp 2)] r) ⟨envOf 0 args, []⟩) : CallP Tryz.prog 42 args r :=
  callP_of tok mixed Tryz.func42 (by kernel_rfl) (by kernel_rfl) (by kernel_rfl : Tryz.f42.ntmps = 35) (by kernel_rfl : Tryz.f42.body.bind (strip 35 (fun _ => [])) = some A42) hn h
def A82 : ACode :=
  (.seq (.reg [] [⟨some 2, (.assign (.const (.bool false))), 4, none⟩])
    (.seq (.reg [] [⟨some 3, (.move (.tmp 0)), 3, none⟩,
      ⟨some 4, (.call ⟨(.value (.func 73)), #[(.tmp 3), (.const (.int .i64 0)), (.const (.int .i64 5))], #[3, 3, 3]⟩), 4, none⟩,
      ⟨some 5, (.unOp .not 4 (.tmp 4)), 4, none⟩,
      ⟨some 2, (.assign (.tmp 5)), 4, none⟩])
    .ret))
theorem C82 {args : List AV} {r : AV} (hn : args.length ≤ 6) (h : vc Tryz.prog T [] A82 (Fin T [(.tmp 2)] r) ⟨envOf 0 args, []⟩) : CallP Tryz.prog 82 args r :=
  callP_of tok mixed Tryz.func82 (by kernel_rfl) (by kernel_rfl) (by kernel_rfl : Tryz.f82.ntmps = 6) (by kernel_rfl : Tryz.f82.body.bind (strip 6 (fun _ => [])) = some A82) hn h
def A43 : ACode :=
  (.seq (.reg [] [⟨some 4, (.assign (.const (.bool false))), 4, none⟩])
    (.seq (.seq (.reg [] [⟨some 7, (.move (.tmp 0)), 23, none⟩,
      ⟨some 8, (.call ⟨(.builtin .len), #[(.tmp 7)], #[23]⟩), 3, none⟩,
      ⟨some 9, (.move (.const (.int .i64 0))), 3, none⟩])
    (.block 0 (.loop (.seq (.reg [] [⟨some 10, (.binOp .lss 3 (.tmp 9) (.tmp 8) 3), 0, none⟩])
    (.seq (.cond (.tmp 10)
    .skip
    (.exit 0))
    (.seq (.block 1 (.seq (.reg [] [⟨some 11, (.move (.tmp 9)), 3, none⟩,
      ⟨some 12, (.indexAddr 23 (.tmp 7) (.tmp 9)), 0, none⟩,
      ⟨some 13, (.load 3 (.tmp 12)), 3, none⟩,
      ⟨some 5, (.assign (.tmp 11)), 3, none⟩,
      ⟨some 6, (.assign (.tmp 13)), 3, none⟩])
    (.seq (.reg [] [⟨some 14, (.move (.tmp 6)), 3, none⟩,
      ⟨some 15, (.move (.tmp 1)), 3, none⟩,
      ⟨some 16, (.binOp .sub 3 (.tmp 15) (.const (.int .i64 1)) 3), 3, none⟩,
      ⟨some 17, (.call ⟨(.value (.func 73)), #[(.tmp 14), (.const (.int .i64 0)), (.tmp 16)], #[3, 3, 3]⟩), 4, none⟩,
      ⟨some 18, (.unOp .not 4 (.tmp 17)), 4, none⟩,
      ⟨some 19, (.move (.tmp 18)), 4, none⟩,
      ⟨some 20, (.move (.tmp 5)), 3, some (19, false)⟩,
      ⟨some 21, (.binOp .gtr 3 (.tmp 20) (.const (.int .i64 0)) 3), 4, some (19, false)⟩,
      ⟨some 22, (.move (.tmp 21)), 4, some (19, false)⟩,
      ⟨some 23, (.move (.tmp 6)), 3, some (22, true)⟩,
      ⟨some 24, (.move (.tmp 0)), 23, some (22, true)⟩,
      ⟨some 25, (.move (.tmp 5)), 3, some (22, true)⟩,
      ⟨some 26, (.binOp .sub 3 (.tmp 25) (.const (.int .i64 1)) 3), 3, some (22, true)⟩,
      ⟨some 27, (.indexAddr 23 (.tmp 24) (.tmp 26)), 0, some (22, true)⟩,
      ⟨some 28, (.load 3 (.tmp 27)), 3, some (22, true)⟩,
      ⟨some 29, (.binOp .leq 3 (.tmp 23) (.tmp 28) 3), 4, some (22, true)⟩,
      ⟨some 30, (.pick (.tmp 22) (.tmp 29) (.const (.bool false))), 4, some (19, false)⟩,
      ⟨some 31, (.pick (.tmp 19) (.const (.bool true)) (.tmp 30)), 4, none⟩])
    (.cond (.tmp 31)
    (.seq (.reg [] [⟨some 4, (.assign (.const (.bool false))), 4, none⟩])
    .ret)
    .skip))))
    (.reg [] [⟨some 32, (.binOp .add 3 (.tmp 9) (.const (.int .i64 1)) 3), 3, none⟩,
      ⟨some 9, (.move (.tmp 32)), 3, none⟩])))))))
    (.seq (.reg [] [⟨some 4, (.assign (.const (.bool true))), 4, none⟩])
    .ret)))
theorem C43 {args : List AV} {r : AV} (hn : args.length ≤ 33) (h : vc Tryz.prog T [] A43 (Fin T [(.tmp 4)] r) ⟨envOf 0 args, []⟩) : CallP Tryz.prog 43 args r :=
  callP_of tok mixed Tryz.func43 (by kernel_rfl) (by kernel_rfl) (by kernel_rfl : Tryz.f43.ntmps = 33) (by kernel_rfl : Tryz.f43.body.bind (strip 33 (fun _ => [])) = some A43) hn h
def A54 : ACode :=
  (.seq (.reg [] [⟨some 4, (.assign (.const (.int .i64 0))), 28, none⟩])
    (.seq (.seq (.reg [] [⟨some 7, (.move (.tmp 0)), 3, none⟩,
      ⟨some 8, (.call ⟨(.value (.func 73)), #[(.tmp 7), (.const (.int .i64 1)), (.const (.int .i64 6))], #[3, 3, 3]⟩), 4, none⟩,
      ⟨some 9, (.unOp .not 4 (.tmp 8)), 4, none⟩])
    (.cond (.tmp 9)
    (.seq (.reg [] [⟨some 4, (.assign (.const (.int .i64 1))), 28, none⟩])
    .ret)
    .skip))
    (.seq (.seq (.reg [] [⟨some 10, (.move (.tmp 1)), 22, none⟩,
      ⟨some 11, (.call ⟨(.builtin .len), #[(.tmp 10)], #[22]⟩), 3, none⟩,
      ⟨some 12, (.binOp .gtr 3 (.tmp 11) (.const (.int .i64 6)) 3), 4, none⟩])
    (.cond (.tmp 12)
    (.seq (.reg [] [⟨some 4, (.assign (.const (.int .i64 3))), 28, none⟩])
    .ret)
    .skip))
    (.seq (.seq (.reg [] [⟨some 13, (.move (.tmp 1)), 22, none⟩,
      ⟨some 14, (.call ⟨(.builtin .len), #[(.tmp 13)], #[22]⟩), 3, none⟩,
      ⟨some 15, (.move (.const (.int .i64 0))), 3, none⟩])
    (.block 0 (.loop (.seq (.reg [] [⟨some 16, (.binOp .lss 3 (.tmp 15) (.tmp 14) 3), 0, none⟩])
    (.seq (.cond (.tmp 16)
    .skip
    (.exit 0))
    (.seq (.block 1 (.seq (.reg [] [⟨some 17, (.indexAddr 22 (.tmp 13) (.tmp 15)), 0, none⟩,
      ⟨some 18, (.load 23 (.tmp 17)), 23, none⟩,
      ⟨some 6, (.assign (.tmp 18)), 23, none⟩])
    (.seq (.reg [] [⟨some 19, (.move (.tmp 6)), 23, none⟩,
      ⟨some 20, (.call ⟨(.builtin .len), #[(.tmp 19)], #[23]⟩), 3, none⟩,
      ⟨some 21, (.binOp .eql 3 (.tmp 20) (.const (.int .i64 0)) 3), 4, none⟩,
      ⟨some 22, (.move (.tmp 21)), 4, none⟩,
      ⟨some 23, (.move (.tmp 6)), 23, some (22, false)⟩,
      ⟨some 24, (.move (.tmp 0)), 3, some (22, false)⟩,
      ⟨some 25, (.call ⟨(.value (.func 43)), #[(.tmp 23), (.tmp 24)], #[23, 3]⟩), 4, some (22, false)⟩,
      ⟨some 26, (.unOp .not 4 (.tmp 25)), 4, some (22, false)⟩,
      ⟨some 27, (.pick (.tmp 22) (.const (.bool true)) (.tmp 26)), 4, none⟩])
    (.cond (.tmp 27)
    (.seq (.reg [] [⟨some 4, (.assign (.const (.int .i64 1))), 28, none⟩])
    .ret)
    .skip))))
    (.reg [] [⟨some 28, (.binOp .add 3 (.tmp 15) (.const (.int .i64 1)) 3), 3, none⟩,
      ⟨some 15, (.move (.tmp 28)), 3, none⟩])))))))
    (.seq (.reg [] [⟨some 4, (.assign (.const (.int .i64 0))), 28, none⟩])
    .ret)))))
theorem C54 {args : List AV} {r : AV} (hn : args.length ≤ 29) (h : vc Tryz.prog T [] A54 (Fin T [(.tmp 4)] r) ⟨envOf 0 args, []⟩) : CallP Tryz.prog 54 args r :=
  callP_of tok mixed Tryz.func54 (by kernel_rfl) (by kernel_rfl) (by kernel_rfl : Tryz.f54.ntmps = 29) (by kernel_rfl : Tryz.f54.body.bind (strip 29 (fun _ => [])) = some A54) hn h
def A44 : ACode :=
  (.seq (.reg [] [⟨some 2, (.alloc 67), 0, none⟩])
    (.seq (.reg [] [⟨some 3, (.alloc 67), 0, none⟩])
    (.seq (.seq (.reg [] [⟨some 6, (.move (.tmp 0)), 22, none⟩,
      ⟨some 7, (.call ⟨(.builtin .len), #[(.tmp 6)], #[22]⟩), 3, none⟩,
      ⟨some 8, (.move (.const (.int .i64 0))), 3, none⟩])
    (.block 0 (.loop (.seq (.reg [] [⟨some 9, (.binOp .lss 3 (.tmp 8) (.tmp 7) 3), 0, none⟩])
    (.seq (.cond (.tmp 9)
    .skip
    (.exit 0))
    (.seq (.block 1 (.seq (.reg [] [⟨some 10, (.move (.tmp 8)), 3, none⟩,
      ⟨some 11, (.indexAddr 22 (.tmp 6) (.tmp 8)), 0, none⟩,
      ⟨some 12, (.load 23 (.tmp 11)), 23, none⟩,
      ⟨some 4, (.assign (.tmp 10)), 3, none⟩,
      ⟨some 5, (.assign (.tmp 12)), 23, none⟩])
    (.seq (.reg [] [⟨some 13, (.fieldAddr 67 (.tmp 3) 0), 0, none⟩,
      ⟨some 14, (.load 23 (.tmp 13)), 23, none⟩,
      ⟨some 15, (.move (.tmp 5)), 23, none⟩,
      ⟨some 16, (.call ⟨(.builtin .append), #[(.tmp 14), (.tmp 15)], #[23, 23]⟩), 23, none⟩,
      ⟨some 17, (.fieldAddr 67 (.tmp 3) 0), 0, none⟩,
      ⟨none, (.store 23 (.tmp 17) (.tmp 16)), 0, none⟩])
    (.draw [] [⟨some 18, (.fieldAddr 67 (.tmp 3) 1), 0, none⟩,
      ⟨some 19, (.load 23 (.tmp 18)), 23, none⟩,
      ⟨some 20, (.move (.tmp 4)), 3, none⟩,
      ⟨some 21, (.buildSlice 23 1 #[(0, (.tmp 20))]), 23, none⟩,
      ⟨some 22, (.move (.tmp 5)), 23, none⟩,
      ⟨some 23, (.call ⟨(.builtin .len), #[(.tmp 22)], #[23]⟩), 3, none⟩,
      ⟨some 24, (.call ⟨(.value (.func 85)), #[(.tmp 21), (.tmp 23)], #[23, 3]⟩), 23, none⟩,
      ⟨some 25, (.call ⟨(.builtin .append), #[(.tmp 19), (.tmp 24)], #[23, 23]⟩), 23, none⟩,
      ⟨some 26, (.fieldAddr 67 (.tmp 3) 1), 0, none⟩,
      ⟨none, (.store 23 (.tmp 26) (.tmp 25)), 0, none⟩] [(0, 2), (1, 2), (0, 3), (1, 3), (0, 4), (1, 4), (2, 4), (3, 4), (0, 5), (1, 5), (2, 5), (3, 5), (0, 6), (1, 6)]))))
    (.reg [] [⟨some 27, (.binOp .add 3 (.tmp 8) (.const (.int .i64 1)) 3), 3, none⟩,
      ⟨some 8, (.move (.tmp 27)), 3, none⟩])))))))
    (.seq (.reg [] [⟨some 28, (.load 67 (.tmp 3)), 67, none⟩,
      ⟨none, (.store 67 (.tmp 2) (.tmp 28)), 0, none⟩])
    .ret))))
theorem C44 {args : List AV} {r : AV} (hn : args.length ≤ 29) (h : vc Tryz.prog T [] A44 (Fin T [(.cell 2 67)] r) ⟨envOf 0 args, []⟩) : CallP Tryz.prog 44 args r :=
  callP_of tok mixed Tryz.func44 (by kernel_rfl) (by kernel_rfl) (by kernel_rfl : Tryz.f44.ntmps = 29) (by kernel_rfl : Tryz.f44.body.bind (strip 29 (fun _ => [])) = some A44) hn h
def A48 : ACode :=
  (.seq (.reg [] [⟨some 2, (.box 67 (.tmp 0)), 0, none⟩,
      ⟨some 3, (.box 62 (.tmp 1)), 0, none⟩,
      ⟨some 4, (.assign (.const (.slice none 0 0))), 23, none⟩,
      ⟨some 5, (.assign (.const (.bool false))), 4, none⟩])
    (.seq (.reg [] [⟨some 9, (.fieldAddr 67 (.tmp 2) 0), 0, none⟩,
      ⟨some 10, (.load 23 (.tmp 9)), 23, none⟩,
      ⟨some 11, (.fieldAddr 62 (.tmp 3) 0), 0, none⟩,
      ⟨some 12, (.load 3 (.tmp 11)), 3, none⟩,
      ⟨some 13, (.call ⟨(.value (.func 89)), #[(.tmp 10), (.tmp 12)], #[23, 3]⟩), 3, none⟩,
      ⟨some 6, (.assign (.tmp 13)), 3, none⟩])
    (.seq (.seq (.draw [] [⟨some 14, (.move (.tmp 6)), 3, none⟩,
      ⟨some 15, (.binOp .lss 3 (.tmp 14) (.const (.int .i64 0)) 3), 4, none⟩,
      ⟨some 16, (.move (.tmp 15)), 4, none⟩,
      ⟨some 17, (.fieldAddr 62 (.tmp 3) 1), 0, some (16, false)⟩,
      ⟨some 18, (.load 3 (.tmp 17)), 3, some (16, false)⟩,
      ⟨some 19, (.fieldAddr 67 (.tmp 2) 1), 0, some (16, false)⟩,
      ⟨some 20, (.load 23 (.tmp 19)), 23, some (16, false)⟩,
      ⟨some 21, (.move (.tmp 6)), 3, some (16, false)⟩,
      ⟨some 22, (.indexAddr 23 (.tmp 20) (.tmp 21)), 0, some (16, false)⟩,
      ⟨some 23, (.load 3 (.tmp 22)), 3, some (16, false)⟩,
      ⟨some 24, (.binOp .lss 3 (.tmp 18) (.tmp 23) 3), 4, some (16, false)⟩,
      ⟨some 25, (.pick (.tmp 16) (.const (.bool true)) (.tmp 24)), 4, none⟩,
      ⟨some 26, (.move (.tmp 25)), 4, none⟩,
      ⟨some 27, (.fieldAddr 62 (.tmp 3) 1), 0, some (26, false)⟩,
      ⟨some 28, (.load 3 (.tmp 27)), 3, some (26, false)⟩,
      ⟨some 29, (.fieldAddr 67 (.tmp 2) 1), 0, some (26, false)⟩,
      ⟨some 30, (.load 23 (.tmp 29)), 23, some (26, false)⟩,
      ⟨some 31, (.fieldAddr 67 (.tmp 2) 1), 0, some (26, false)⟩,
      ⟨some 32, (.load 23 (.tmp 31)), 23, some (26, false)⟩,
      ⟨some 33, (.call ⟨(.builtin .len), #[(.tmp 32)], #[23]⟩), 3, some (26, false)⟩,
      ⟨some 34, (.binOp .sub 3 (.tmp 33) (.const (.int .i64 1)) 3), 3, some (26, false)⟩,
      ⟨some 35, (.indexAddr 23 (.tmp 30) (.tmp 34)), 0, some (26, false)⟩,
      ⟨some 36, (.load 3 (.tmp 35)), 3, some (26, false)⟩,
      ⟨some 37, (.binOp .gtr 3 (.tmp 28) (.tmp 36) 3), 4, some (26, false)⟩,
      ⟨some 38, (.pick (.tmp 26) (.const (.bool true)) (.tmp 37)), 4, none⟩] [(3, 5), (4, 5), (3, 6), (4, 6), (3, 7), (4, 7), (5, 7), (6, 7), (3, 8), (4, 8), (3, 9), (4, 9), (13, 15), (14, 15), (13, 16), (14, 16), (13, 17), (14, 17), (15, 17), (16, 17), (13, 18), (14, 18), (15, 18), (16, 18), (13, 19), (14, 19), (15, 19), (16, 19), (13, 20), (14, 20), (15, 20), (16, 20), (13, 21), (14, 21), (13, 22), (14, 22)])
    (.cond (.tmp 38)
    (.seq (.reg [] [⟨some 4, (.assign (.const (.slice none 0 0))), 23, none⟩,
      ⟨some 5, (.assign (.const (.bool false))), 4, none⟩])
    .ret)
    .skip))
    (.seq (.reg [] [⟨some 39, (.move (.tmp 6)), 3, none⟩,
      ⟨some 7, (.assign (.tmp 39)), 3, none⟩])
    (.seq (.block 0 (.loop (.seq (.seq (.draw [] [⟨some 40, (.move (.tmp 7)), 3, none⟩,
      ⟨some 41, (.fieldAddr 67 (.tmp 2) 1), 0, none⟩,
      ⟨some 42, (.load 23 (.tmp 41)), 23, none⟩,
      ⟨some 43, (.call ⟨(.builtin .len), #[(.tmp 42)], #[23]⟩), 3, none⟩,
      ⟨some 44, (.binOp .lss 3 (.tmp 40) (.tmp 43) 3), 4, none⟩,
      ⟨some 45, (.move (.tmp 44)), 4, none⟩,
      ⟨some 46, (.fieldAddr 67 (.tmp 2) 1), 0, some (45, true)⟩,
      ⟨some 47, (.load 23 (.tmp 46)), 23, some (45, true)⟩,
      ⟨some 48, (.move (.tmp 7)), 3, some (45, true)⟩,
      ⟨some 49, (.indexAddr 23 (.tmp 47) (.tmp 48)), 0, some (45, true)⟩,
      ⟨some 50, (.load 3 (.tmp 49)), 3, some (45, true)⟩,
      ⟨some 51, (.fieldAddr 62 (.tmp 3) 1), 0, some (45, true)⟩,
      ⟨some 52, (.load 3 (.tmp 51)), 3, some (45, true)⟩,
      ⟨some 53, (.binOp .leq 3 (.tmp 50) (.tmp 52) 3), 4, some (45, true)⟩,
      ⟨some 54, (.pick (.tmp 45) (.tmp 53) (.const (.bool false))), 4, none⟩] [(0, 1), (0, 2), (0, 3), (6, 8), (7, 8), (6, 11), (7, 11), (8, 11), (9, 11), (10, 11), (6, 12), (7, 12), (8, 12), (9, 12), (10, 12)])
    (.cond (.tmp 54)
    .skip
    (.exit 0)))
    (.block 1 (.reg [] [⟨some 55, (.move (.tmp 7)), 3, none⟩,
      ⟨some 56, (.binOp .add 3 (.tmp 55) (.const (.int .i64 1)) 3), 3, none⟩,
      ⟨some 7, (.assign (.tmp 56)), 3, none⟩])))))
    (.seq (.reg [] [⟨some 57, (.fieldAddr 67 (.tmp 2) 0), 0, none⟩,
      ⟨some 58, (.load 23 (.tmp 57)), 23, none⟩,
      ⟨some 59, (.move (.tmp 6)), 3, none⟩,
      ⟨some 60, (.move (.tmp 7)), 3, none⟩,
      ⟨some 61, (.move (.tmp 7)), 3, none⟩,
      ⟨some 62, (.slice 23 (.tmp 58) (some (.tmp 59)) (some (.tmp 60)) (some (.tmp 61))), 23, none⟩,
      ⟨some 63, (.call ⟨(.value (.func 63)), #[(.tmp 62)], #[23]⟩), 23, none⟩,
      ⟨some 8, (.assign (.tmp 63)), 23, none⟩])
    (.seq (.reg [] [⟨some 64, (.move (.tmp 8)), 23, none⟩,
      ⟨some 65, (.call ⟨(.value (.func 83)), #[(.tmp 64)], #[23]⟩), 0, none⟩])
    (.seq (.reg [] [⟨some 66, (.move (.tmp 8)), 23, none⟩,
      ⟨some 4, (.assign (.tmp 66)), 23, none⟩,
      ⟨some 5, (.assign (.const (.bool true))), 4, none⟩])
    .ret))))))))
theorem C48 {args : List AV} {r : AV} (hn : args.length ≤ 67) (h : vc Tryz.prog T [] A48 (Fin T [(.tmp 4), (.tmp 5)] r) ⟨envOf 0 args, []⟩) : CallP Tryz.prog 48 args r :=
  callP_of tok mixed Tryz.func48 (by kernel_rfl) (by kernel_rfl) (by kernel_rfl : Tryz.f48.ntmps = 67) (by kernel_rfl : Tryz.f48.body.bind (strip 67 (fun _ => [])) = some A48) hn h
def A88 : ACode :=
  (.seq (.reg [] [⟨some 2, (.box 95 (.tmp 0)), 0, none⟩,
      ⟨some 3, (.box 95 (.tmp 1)), 0, none⟩,
      ⟨some 4, (.assign (.const (.int .i64 0))), 3, none⟩])
    (.seq (.draw [] [⟨some 5, (.fieldAddr 95 (.tmp 2) 0), 0, none⟩,
      ⟨some 6, (.load 3 (.tmp 5)), 3, none⟩,
      ⟨some 7, (.fieldAddr 95 (.tmp 3) 0), 0, none⟩,
      ⟨some 8, (.load 3 (.tmp 7)), 3, none⟩,
      ⟨some 9, (.call ⟨(.value (.func 109)), #[(.tmp 6), (.tmp 8)], #[3, 3]⟩), 3, none⟩,
      ⟨some 10, (.fieldAddr 95 (.tmp 2) 1), 0, none⟩,
      ⟨some 11, (.load 3 (.tmp 10)), 3, none⟩,
      ⟨some 12, (.fieldAddr 95 (.tmp 3) 1), 0, none⟩,
      ⟨some 13, (.load 3 (.tmp 12)), 3, none⟩,
      ⟨some 14, (.call ⟨(.value (.func 109)), #[(.tmp 11), (.tmp 13)], #[3, 3]⟩), 3, none⟩,
      ⟨some 15, (.buildSlice 23 2 #[(0, (.tmp 9)), (1, (.tmp 14))]), 23, none⟩,
      ⟨some 16, (.call ⟨(.value (.func 108)), #[(.tmp 15)], #[23]⟩), 3, none⟩,
      ⟨some 4, (.assign (.tmp 16)), 3, none⟩] [(0, 2), (1, 2), (0, 3), (1, 3), (0, 5), (1, 5), (2, 5), (3, 5), (4, 5), (0, 6), (1, 6), (2, 6), (3, 6), (4, 6), (0, 7), (1, 7), (2, 7), (3, 7), (4, 7), (5, 7), (6, 7), (0, 8), (1, 8), (2, 8), (3, 8), (4, 8), (5, 8), (6, 8)])
    .ret))
theorem C88 {args : List AV} {r : AV} (hn : args.length ≤ 17) (h : vc Tryz.prog T [] A88 (Fin T [(.tmp 4)] r) ⟨envOf 0 args, []⟩) : CallP Tryz.prog 88 args r :=
  callP_of tok mixed Tryz.func88 (by kernel_rfl) (by kernel_rfl) (by kernel_rfl : Tryz.f88.ntmps = 17) (by kernel_rfl : Tryz.f88.body.bind (strip 17 (fun _ => [])) = some A88) hn h
def A46 : ACode :=
  (.seq (.reg [] [⟨some 2, (.assign (.const (.slice none 0 0))), 27, none⟩])
    (.seq (.reg [] [⟨some 11, (.move (.tmp 0)), 22, none⟩,
      ⟨some 12, (.call ⟨(.value (.func 44)), #[(.tmp 11)], #[22]⟩), 67, none⟩,
      ⟨some 3, (.alloc 67), 0, none⟩,
      ⟨none, (.store 67 (.tmp 3) (.tmp 12)), 0, none⟩])
    (.seq (.reg [] [⟨some 4, (.assign (.const (.slice none 0 0))), 94, none⟩])
    (.seq (.seq (.reg [] [⟨some 13, (.fieldAddr 67 (.tmp 3) 0), 0, none⟩,
      ⟨some 14, (.load 23 (.tmp 13)), 23, none⟩,
      ⟨some 15, (.call ⟨(.builtin .len), #[(.tmp 14)], #[23]⟩), 3, none⟩,
      ⟨some 16, (.move (.const (.int .i64 0))), 3, none⟩])
    (.block 0 (.loop (.seq (.reg [] [⟨some 17, (.binOp .lss 3 (.tmp 16) (.tmp 15) 3), 0, none⟩])
    (.seq (.cond (.tmp 17)
    .skip
    (.exit 0))
    (.seq (.block 1 (.seq (.reg [] [⟨some 18, (.move (.tmp 16)), 3, none⟩,
      ⟨some 19, (.indexAddr 23 (.tmp 14) (.tmp 16)), 0, none⟩,
      ⟨some 20, (.load 3 (.tmp 19)), 3, none⟩,
      ⟨some 5, (.assign (.tmp 18)), 3, none⟩,
      ⟨some 6, (.assign (.tmp 20)), 3, none⟩])
    (.seq (.reg [] [⟨some 21, (.fieldAddr 67 (.tmp 3) 1), 0, none⟩,
      ⟨some 22, (.load 23 (.tmp 21)), 23, none⟩,
      ⟨some 23, (.move (.tmp 5)), 3, none⟩,
      ⟨some 24, (.indexAddr 23 (.tmp 22) (.tmp 23)), 0, none⟩,
      ⟨some 25, (.load 3 (.tmp 24)), 3, none⟩,
      ⟨some 7, (.assign (.tmp 25)), 3, none⟩])
    (.block 2 (.loop (.seq (.seq (.reg [] [⟨some 26, (.move (.tmp 7)), 3, none⟩,
      ⟨some 27, (.move (.tmp 0)), 22, none⟩,
      ⟨some 28, (.call ⟨(.builtin .len), #[(.tmp 27)], #[22]⟩), 3, none⟩,
      ⟨some 29, (.binOp .lss 3 (.tmp 26) (.tmp 28) 3), 4, none⟩])
    (.cond (.tmp 29)
    .skip
    (.exit 2)))
    (.seq (.block 3 (.reg [] [⟨some 32, (.move (.tmp 4)), 94, none⟩,
      ⟨some 33, (.move (.tmp 6)), 3, none⟩,
      ⟨some 34, (.move (.tmp 7)), 3, none⟩,
      ⟨some 35, (.build 95 #[(0, (.tmp 33)), (1, (.tmp 34))]), 95, none⟩,
      ⟨some 36, (.buildSlice 94 1 #[(0, (.tmp 35))]), 94, none⟩,
      ⟨some 37, (.call ⟨(.builtin .append), #[(.tmp 32), (.tmp 36)], #[94, 94]⟩), 94, none⟩,
      ⟨some 4, (.assign (.tmp 37)), 94, none⟩]))
    (.reg [] [⟨some 30, (.move (.tmp 7)), 3, none⟩,
      ⟨some 31, (.binOp .add 3 (.tmp 30) (.const (.int .i64 1)) 3), 3, none⟩,
      ⟨some 7, (.assign (.tmp 31)), 3, none⟩]))))))))
    (.reg [] [⟨some 38, (.binOp .add 3 (.tmp 16) (.const (.int .i64 1)) 3), 3, none⟩,
      ⟨some 16, (.move (.tmp 38)), 3, none⟩])))))))
    (.seq (.reg [] [⟨some 39, (.move (.tmp 4)), 94, none⟩,
      ⟨some 40, (.call ⟨(.value (.func 87)), #[(.tmp 39), (.func 88)], #[94, 97]⟩), 0, none⟩])
    (.seq (.reg [] [⟨some 8, (.assign (.const (.slice none 0 0))), 27, none⟩])
    (.seq (.seq (.reg [] [⟨some 41, (.move (.tmp 4)), 94, none⟩,
      ⟨some 42, (.call ⟨(.builtin .len), #[(.tmp 41)], #[94]⟩), 3, none⟩,
      ⟨some 43, (.move (.const (.int .i64 0))), 3, none⟩])
    (.block 4 (.loop (.seq (.reg [] [⟨some 44, (.binOp .lss 3 (.tmp 43) (.tmp 42) 3), 0, none⟩])
    (.seq (.cond (.tmp 44)
    .skip
    (.exit 4))
    (.seq (.block 5 (.seq (.reg [] [⟨some 45, (.indexAddr 94 (.tmp 41) (.tmp 43)), 0, none⟩,
      ⟨some 46, (.load 95 (.tmp 45)), 95, none⟩,
      ⟨some 10, (.alloc 95), 0, none⟩,
      ⟨none, (.store 95 (.tmp 10) (.tmp 46)), 0, none⟩])
    (.reg [] [⟨some 47, (.move (.tmp 8)), 27, none⟩,
      ⟨some 48, (.load 95 (.tmp 10)), 95, none⟩,
      ⟨some 49, (.buildSlice 27 1 #[(0, (.tmp 48))]), 27, none⟩,
      ⟨some 50, (.call ⟨(.builtin .append), #[(.tmp 47), (.tmp 49)], #[27, 27]⟩), 27, none⟩,
      ⟨some 8, (.assign (.tmp 50)), 27, none⟩])))
    (.reg [] [⟨some 51, (.binOp .add 3 (.tmp 43) (.const (.int .i64 1)) 3), 3, none⟩,
      ⟨some 43, (.move (.tmp 51)), 3, none⟩])))))))
    (.seq (.reg [] [⟨some 52, (.move (.tmp 8)), 27, none⟩,
      ⟨some 2, (.assign (.tmp 52)), 27, none⟩])
    .ret))))))))
theorem CO46 {args : List AV} {sz : Nat} {els : List AV} (hn : args.length ≤ 53) (h : vc Tryz.prog T [] A46 (FinO [(.tmp 2)] sz els) ⟨envOf 0 args, []⟩) : CallO Tryz.prog 46 args sz els :=
  callO_of tok mixed Tryz.func46 (by kernel_rfl) (by kernel_rfl) (by kernel_rfl : Tryz.f46.ntmps = 53) (by kernel_rfl : Tryz.f46.body.bind (strip 53 (fun _ => [])) = some A46) hn h
def A56 : ACode :=
  (.seq (.reg [] [⟨some 2, (.assign (.const (.slice none 0 0))), 22, none⟩])
    (.seq (.reg [] [⟨some 9, (.move (.tmp 0)), 22, none⟩,
      ⟨some 10, (.call ⟨(.value (.func 44)), #[(.tmp 9)], #[22]⟩), 67, none⟩,
      ⟨some 3, (.alloc 67), 0, none⟩,
      ⟨none, (.store 67 (.tmp 3) (.tmp 10)), 0, none⟩])
    (.seq (.reg [] [⟨some 4, (.assign (.const (.slice none 0 0))), 22, none⟩])
    (.seq (.seq (.reg [] [⟨some 11, (.move (.tmp 0)), 22, none⟩,
      ⟨some 12, (.call ⟨(.value (.func 46)), #[(.tmp 11)], #[22]⟩), 27, none⟩,
      ⟨some 13, (.call ⟨(.builtin .len), #[(.tmp 12)], #[27]⟩), 3, none⟩,
      ⟨some 14, (.move (.const (.int .i64 0))), 3, none⟩])
    (.block 0 (.loop (.seq (.reg [] [⟨some 15, (.binOp .lss 3 (.tmp 14) (.tmp 13) 3), 0, none⟩])
    (.seq (.cond (.tmp 15)
    .skip
    (.exit 0))
    (.seq (.block 1 (.seq (.reg [] [⟨some 16, (.indexAddr 27 (.tmp 12) (.tmp 14)), 0, none⟩,
      ⟨some 17, (.load 62 (.tmp 16)), 62, none⟩,
      ⟨some 6, (.alloc 62), 0, none⟩,
      ⟨none, (.store 62 (.tmp 6) (.tmp 17)), 0, none⟩])
    (.seq (.reg [] [⟨some 19, (.load 67 (.tmp 3)), 67, none⟩,
      ⟨some 20, (.load 62 (.tmp 6)), 62, none⟩,
      ⟨some 21, (.call ⟨(.value (.func 48)), #[(.tmp 19), (.tmp 20)], #[67, 62]⟩), 71, none⟩,
      ⟨some 18, (.move (.tmp 21)), 71, none⟩,
      ⟨some 22, (.extract (.tmp 18) 0), 23, none⟩,
      ⟨some 23, (.extract (.tmp 18) 1), 4, none⟩,
      ⟨some 7, (.assign (.tmp 22)), 23, none⟩,
      ⟨some 8, (.assign (.tmp 23)), 4, none⟩])
    (.reg [] [⟨some 24, (.move (.tmp 4)), 22, none⟩,
      ⟨some 25, (.move (.tmp 7)), 23, none⟩,
      ⟨some 26, (.buildSlice 22 1 #[(0, (.tmp 25))]), 22, none⟩,
      ⟨some 27, (.call ⟨(.builtin .append), #[(.tmp 24), (.tmp 26)], #[22, 22]⟩), 22, none⟩,
      ⟨some 4, (.assign (.tmp 27)), 22, none⟩]))))
    (.reg [] [⟨some 28, (.binOp .add 3 (.tmp 14) (.const (.int .i64 1)) 3), 3, none⟩,
      ⟨some 14, (.move (.tmp 28)), 3, none⟩])))))))
    (.seq (.reg [] [⟨some 29, (.move (.tmp 4)), 22, none⟩,
      ⟨some 30, (.call ⟨(.value (.func 92)), #[(.tmp 29), (.func 93)], #[22, 102]⟩), 0, none⟩])
    (.seq (.reg [] [⟨some 31, (.move (.tmp 4)), 22, none⟩,
      ⟨some 32, (.call ⟨(.value (.func 94)), #[(.tmp 31), (.func 49)], #[22, 63]⟩), 22, none⟩,
      ⟨some 2, (.assign (.tmp 32)), 22, none⟩])
    .ret))))))
theorem C56 {args : List AV} {r : AV} (hn : args.length ≤ 33) (h : vc Tryz.prog T [] A56 (Fin T [(.tmp 2)] r) ⟨envOf 0 args, []⟩) : CallP Tryz.prog 56 args r :=
  callP_of tok mixed Tryz.func56 (by kernel_rfl) (by kernel_rfl) (by kernel_rfl : Tryz.f56.ntmps = 33) (by kernel_rfl : Tryz.f56.body.bind (strip 33 (fun _ => [])) = some A56) hn h
def A25 : ACode :=
  (.seq (.reg [] [⟨some 2, (.assign (.const (.slice none 0 0))), 22, none⟩,
      ⟨some 3, (.assign (.const (.int .i64 0))), 28, none⟩])
    (.seq (.seq (.reg [] [⟨some 5, (.move (.tmp 0)), 22, none⟩,
      ⟨some 6, (.call ⟨(.value (.func 42)), #[(.tmp 5)], #[22]⟩), 28, none⟩,
      ⟨some 4, (.assign (.tmp 6)), 28, none⟩])
    (.seq (.reg [] [⟨some 7, (.move (.tmp 4)), 28, none⟩,
      ⟨some 8, (.binOp .neq 28 (.tmp 7) (.const (.int .i64 0)) 28), 4, none⟩])
    (.cond (.tmp 8)
    (.seq (.reg [] [⟨some 9, (.move (.tmp 4)), 28, none⟩,
      ⟨some 2, (.assign (.const (.slice none 0 0))), 22, none⟩,
      ⟨some 3, (.assign (.tmp 9)), 28, none⟩])
    .ret)
    .skip)))
    (.seq (.reg [] [⟨some 10, (.move (.tmp 0)), 22, none⟩,
      ⟨some 11, (.call ⟨(.value (.func 56)), #[(.tmp 10)], #[22]⟩), 22, none⟩,
      ⟨some 2, (.assign (.tmp 11)), 22, none⟩,
      ⟨some 3, (.assign (.const (.int .i64 0))), 28, none⟩])
    .ret)))
theorem C25 {args : List AV} {r : AV} (hn : args.length ≤ 12) (h : vc Tryz.prog T [] A25 (Fin T [(.tmp 2), (.tmp 3)] r) ⟨envOf 0 args, []⟩) : CallP Tryz.prog 25 args r :=
  callP_of tok mixed Tryz.func25 (by kernel_rfl) (by kernel_rfl) (by kernel_rfl : Tryz.f25.ntmps = 12) (by kernel_rfl : Tryz.f25.body.bind (strip 12 (fun _ => [])) = some A25) hn h
def A67 : ACode :=
  (.seq (.reg [] [⟨some 2, (.assign (.const (.slice none 0 0))), 22, none⟩])
    (.seq (.reg [] [⟨some 3, (.assign (.const (.slice none 0 0))), 22, none⟩])
    (.seq (.seq (.reg [] [⟨some 6, (.move (.tmp 0)), 22, none⟩,
      ⟨some 7, (.call ⟨(.builtin .len), #[(.tmp 6)], #[22]⟩), 3, none⟩,
      ⟨some 8, (.move (.const (.int .i64 0))), 3, none⟩])
    (.block 0 (.loop (.seq (.reg [] [⟨some 9, (.binOp .lss 3 (.tmp 8) (.tmp 7) 3), 0, none⟩])
    (.seq (.cond (.tmp 9)
    .skip
    (.exit 0))
    (.seq (.block 1 (.seq (.reg [] [⟨some 10, (.indexAddr 22 (.tmp 6) (.tmp 8)), 0, none⟩,
      ⟨some 11, (.load 23 (.tmp 10)), 23, none⟩,
      ⟨some 5, (.assign (.tmp 11)), 23, none⟩])
    (.reg [] [⟨some 12, (.move (.tmp 3)), 22, none⟩,
      ⟨some 13, (.move (.tmp 5)), 23, none⟩,
      ⟨some 14, (.call ⟨(.value (.func 63)), #[(.tmp 13)], #[23]⟩), 23, none⟩,
      ⟨some 15, (.buildSlice 22 1 #[(0, (.tmp 14))]), 22, none⟩,
      ⟨some 16, (.call ⟨(.builtin .append), #[(.tmp 12), (.tmp 15)], #[22, 22]⟩), 22, none⟩,
      ⟨some 3, (.assign (.tmp 16)), 22, none⟩])))
    (.reg [] [⟨some 17, (.binOp .add 3 (.tmp 8) (.const (.int .i64 1)) 3), 3, none⟩,
      ⟨some 8, (.move (.tmp 17)), 3, none⟩])))))))
    (.seq (.reg [] [⟨some 18, (.move (.tmp 3)), 22, none⟩,
      ⟨some 2, (.assign (.tmp 18)), 22, none⟩])
    .ret))))
theorem CO67 {args : List AV} {sz : Nat} {els : List AV} (hn : args.length ≤ 19) (h : vc Tryz.prog T [] A67 (FinO [(.tmp 2)] sz els) ⟨envOf 0 args, []⟩) : CallO Tryz.prog 67 args sz els :=
  callO_of tok mixed Tryz.func67 (by kernel_rfl) (by kernel_rfl) (by kernel_rfl : Tryz.f67.ntmps = 19) (by kernel_rfl : Tryz.f67.body.bind (strip 19 (fun _ => [])) = some A67) hn h
def A31 : ACode :=
  (.seq (.reg [] [⟨some 4, (.assign (.const (.slice none 0 0))), 22, none⟩,
      ⟨some 5, (.assign (.const (.int .i64 0))), 28, none⟩])
    (.seq (.seq (.reg [] [⟨some 8, (.move (.tmp 0)), 22, none⟩,
      ⟨some 9, (.call ⟨(.value (.func 42)), #[(.tmp 8)], #[22]⟩), 28, none⟩,
      ⟨some 6, (.assign (.tmp 9)), 28, none⟩])
    (.seq (.reg [] [⟨some 10, (.move (.tmp 6)), 28, none⟩,
      ⟨some 11, (.binOp .neq 28 (.tmp 10) (.const (.int .i64 0)) 28), 4, none⟩])
    (.cond (.tmp 11)
    (.seq (.reg [] [⟨some 12, (.move (.tmp 6)), 28, none⟩,
      ⟨some 4, (.assign (.const (.slice none 0 0))), 22, none⟩,
      ⟨some 5, (.assign (.tmp 12)), 28, none⟩])
    .ret)
    .skip)))
    (.seq (.seq (.reg [] [⟨some 13, (.move (.tmp 1)), 3, none⟩,
      ⟨some 14, (.move (.tmp 0)), 22, none⟩,
      ⟨some 15, (.call ⟨(.builtin .len), #[(.tmp 14)], #[22]⟩), 3, none⟩,
      ⟨some 16, (.binOp .sub 3 (.tmp 15) (.const (.int .i64 2)) 3), 3, none⟩,
      ⟨some 17, (.call ⟨(.value (.func 73)), #[(.tmp 13), (.const (.int .i64 0)), (.tmp 16)], #[3, 3, 3]⟩), 4, none⟩,
      ⟨some 18, (.unOp .not 4 (.tmp 17)), 4, none⟩])
    (.cond (.tmp 18)
    (.seq (.reg [] [⟨some 4, (.assign (.const (.slice none 0 0))), 22, none⟩,
      ⟨some 5, (.assign (.const (.int .i64 4))), 28, none⟩])
    .ret)
    .skip))
    (.seq (.reg [] [⟨some 19, (.move (.tmp 0)), 22, none⟩,
      ⟨some 20, (.call ⟨(.value (.func 67)), #[(.tmp 19)], #[22]⟩), 22, none⟩,
      ⟨some 7, (.assign (.tmp 20)), 22, none⟩])
    (.seq (.draw [] [⟨some 21, (.move (.tmp 7)), 22, none⟩,
      ⟨some 22, (.move (.tmp 1)), 3, none⟩,
      ⟨some 23, (.move (.tmp 1)), 3, none⟩,
      ⟨some 24, (.binOp .add 3 (.tmp 23) (.const (.int .i64 2)) 3), 3, none⟩,
      ⟨some 25, (.move (.tmp 0)), 22, none⟩,
      ⟨some 26, (.move (.tmp 1)), 3, none⟩,
      ⟨some 27, (.indexAddr 22 (.tmp 25) (.tmp 26)), 0, none⟩,
      ⟨some 28, (.load 23 (.tmp 27)), 23, none⟩,
      ⟨some 29, (.move (.tmp 0)), 22, none⟩,
      ⟨some 30, (.move (.tmp 1)), 3, none⟩,
      ⟨some 31, (.binOp .add 3 (.tmp 30) (.const (.int .i64 1)) 3), 3, none⟩,
      ⟨some 32, (.indexAddr 22 (.tmp 29) (.tmp 31)), 0, none⟩,
      ⟨some 33, (.load 23 (.tmp 32)), 23, none⟩,
      ⟨some 34, (.buildSlice 22 2 #[(0, (.tmp 28)), (1, (.tmp 33))]), 22, none⟩,
      ⟨some 35, (.call ⟨(.value (.func 75)), #[(.tmp 34)], #[22]⟩), 23, none⟩,
      ⟨some 36, (.buildSlice 22 1 #[(0, (.tmp 35))]), 22, none⟩,
      ⟨some 37, (.call ⟨(.value (.func 74)), #[(.tmp 21), (.tmp 22), (.tmp 24), (.tmp 36)], #[22, 3, 3, 22]⟩), 22, none⟩,
      ⟨some 4, (.assign (.tmp 37)), 22, none⟩,
      ⟨some 5, (.assign (.const (.int .i64 0))), 28, none⟩] [(0, 1), (0, 2), (1, 2), (0, 3), (1, 3), (0, 4), (1, 4), (2, 4), (3, 4), (0, 5), (1, 5), (2, 5), (3, 5), (4, 5), (0, 6), (1, 6), (2, 6), (3, 6), (0, 7), (1, 7), (2, 7), (3, 7), (0, 8), (1, 8), (2, 8), (3, 8), (4, 8), (5, 8), (6, 8), (7, 8), (0, 9), (1, 9), (2, 9), (3, 9), (4, 9), (5, 9), (6, 9), (7, 9), (8, 9), (0, 10), (1, 10), (2, 10), (3, 10), (4, 10), (5, 10), (6, 10), (7, 10), (8, 10), (0, 11), (1, 11), (2, 11), (3, 11), (4, 11), (5, 11), (6, 11), (7, 11), (0, 12), (1, 12), (2, 12), (3, 12), (4, 12), (5, 12), (6, 12), (7, 12), (0, 13), (1, 13), (2, 13), (3, 13), (0, 14), (1, 14), (2, 14), (3, 14), (0, 15), (1, 15), (2, 15), (3, 15)])
    .ret)))))
theorem C31 {args : List AV} {r : AV} (hn : args.length ≤ 38) (h : vc Tryz.prog T [] A31 (Fin T [(.tmp 4), (.tmp 5)] r) ⟨envOf 0 args, []⟩) : CallP Tryz.prog 31 args r :=
  callP_of tok mixed Tryz.func31 (by kernel_rfl) (by kernel_rfl) (by kernel_rfl : Tryz.f31.ntmps = 38) (by kernel_rfl : Tryz.f31.body.bind (strip 38 (fun _ => [])) = some A31) hn h
def A79 : ACode :=
  (.seq (.reg [] [⟨some 4, (.assign (.const (.slice none 0 0))), 23, none⟩,
      ⟨some 5, (.assign (.const (.bool false))), 4, none⟩])
    (.seq (.reg [] [⟨some 6, (.assign (.const (.slice none 0 0))), 23, none⟩])
    (.seq (.seq (.reg [] [⟨some 14, (.move (.tmp 0)), 22, none⟩,
      ⟨some 15, (.call ⟨(.builtin .len), #[(.tmp 14)], #[22]⟩), 3, none⟩,
      ⟨some 16, (.move (.const (.int .i64 0))), 3, none⟩])
    (.block 0 (.loop (.seq (.reg [] [⟨some 17, (.binOp .lss 3 (.tmp 16) (.tmp 15) 3), 0, none⟩])
    (.seq (.cond (.tmp 17)
    .skip
    (.exit 0))
    (.seq (.block 1 (.seq (.reg [] [⟨some 18, (.indexAddr 22 (.tmp 14) (.tmp 16)), 0, none⟩,
      ⟨some 19, (.load 23 (.tmp 18)), 23, none⟩,
      ⟨some 8, (.assign (.tmp 19)), 23, none⟩])
    (.seq (.reg [] [⟨some 20, (.move (.tmp 1)), 23, none⟩,
      ⟨some 21, (.call ⟨(.builtin .len), #[(.tmp 20)], #[23]⟩), 3, none⟩,
      ⟨some 9, (.assign (.tmp 21)), 3, none⟩,
      ⟨some 10, (.assign (.const (.int .i64 (-1)))), 3, none⟩])
    (.seq (.seq (.reg [] [⟨some 22, (.move (.tmp 8)), 23, none⟩,
      ⟨some 23, (.call ⟨(.builtin .len), #[(.tmp 22)], #[23]⟩), 3, none⟩,
      ⟨some 24, (.move (.const (.int .i64 0))), 3, none⟩])
    (.block 2 (.loop (.seq (.reg [] [⟨some 25, (.binOp .lss 3 (.tmp 24) (.tmp 23) 3), 0, none⟩])
    (.seq (.cond (.tmp 25)
    .skip
    (.exit 2))
    (.seq (.block 3 (.seq (.reg [] [⟨some 26, (.indexAddr 23 (.tmp 22) (.tmp 24)), 0, none⟩,
      ⟨some 27, (.load 3 (.tmp 26)), 3, none⟩,
      ⟨some 12, (.assign (.tmp 27)), 3, none⟩])
    (.seq (.reg [] [⟨some 28, (.move (.tmp 1)), 23, none⟩,
      ⟨some 29, (.move (.tmp 12)), 3, none⟩,
      ⟨some 30, (.call ⟨(.value (.func 89)), #[(.tmp 28), (.tmp 29)], #[23, 3]⟩), 3, none⟩,
      ⟨some 13, (.assign (.tmp 30)), 3, none⟩])
    (.reg [] [⟨some 31, (.move (.tmp 9)), 3, none⟩,
      ⟨some 32, (.move (.tmp 13)), 3, none⟩,
      ⟨some 33, (.call ⟨(.builtin .min), #[(.tmp 31), (.tmp 32)], #[3, 3]⟩), 3, none⟩,
      ⟨some 34, (.move (.tmp 10)), 3, none⟩,
      ⟨some 35, (.move (.tmp 13)), 3, none⟩,
      ⟨some 36, (.call ⟨(.builtin .max), #[(.tmp 34), (.tmp 35)], #[3, 3]⟩), 3, none⟩,
      ⟨some 9, (.assign (.tmp 33)), 3, none⟩,
      ⟨some 10, (.assign (.tmp 36)), 3, none⟩]))))
    (.reg [] [⟨some 37, (.binOp .add 3 (.tmp 24) (.const (.int .i64 1)) 3), 3, none⟩,
      ⟨some 24, (.move (.tmp 37)), 3, none⟩])))))))
    (.seq (.seq (.reg [] [⟨some 38, (.move (.tmp 10)), 3, none⟩,
      ⟨some 39, (.move (.tmp 9)), 3, none⟩,
      ⟨some 40, (.binOp .sub 3 (.tmp 38) (.tmp 39) 3), 3, none⟩,
      ⟨some 41, (.binOp .add 3 (.tmp 40) (.const (.int .i64 1)) 3), 3, none⟩,
      ⟨some 42, (.move (.tmp 8)), 23, none⟩,
      ⟨some 43, (.call ⟨(.builtin .len), #[(.tmp 42)], #[23]⟩), 3, none⟩,
      ⟨some 44, (.binOp .neq 3 (.tmp 41) (.tmp 43) 3), 4, none⟩])
    (.cond (.tmp 44)
    (.seq (.reg [] [⟨some 4, (.assign (.const (.slice none 0 0))), 23, none⟩,
      ⟨some 5, (.assign (.const (.bool false))), 4, none⟩])
    .ret)
    .skip))
    (.reg [] [⟨some 45, (.move (.tmp 6)), 23, none⟩,
      ⟨some 46, (.move (.tmp 10)), 3, none⟩,
      ⟨some 47, (.buildSlice 23 1 #[(0, (.tmp 46))]), 23, none⟩,
      ⟨some 48, (.call ⟨(.builtin .append), #[(.tmp 45), (.tmp 47)], #[23, 23]⟩), 23, none⟩,
      ⟨some 6, (.assign (.tmp 48)), 23, none⟩]))))))
    (.reg [] [⟨some 49, (.binOp .add 3 (.tmp 16) (.const (.int .i64 1)) 3), 3, none⟩,
      ⟨some 16, (.move (.tmp 49)), 3, none⟩])))))))
    (.seq (.reg [] [⟨some 50, (.move (.tmp 6)), 23, none⟩,
      ⟨some 4, (.assign (.tmp 50)), 23, none⟩,
      ⟨some 5, (.assign (.const (.bool true))), 4, none⟩])
    .ret))))
def A77 : ACode :=
  (.seq (.reg [] [⟨some 6, (.assign (.const (.bool false))), 4, none⟩])
    (.seq (.seq (.reg [] [⟨some 8, (.move (.tmp 1)), 23, none⟩,
      ⟨some 9, (.call ⟨(.builtin .len), #[(.tmp 8)], #[23]⟩), 3, none⟩,
      ⟨some 10, (.move (.tmp 0)), 3, none⟩,
      ⟨some 11, (.binOp .eql 3 (.tmp 9) (.tmp 10) 3), 4, none⟩])
    (.cond (.tmp 11)
    (.seq (.reg [] [⟨some 12, (.move (.tmp 2)), 25, none⟩,
      ⟨some 13, (.move (.tmp 1)), 23, none⟩,
      ⟨some 14, (.call ⟨(.value (.tmp 12)), #[(.tmp 13)], #[23]⟩), 4, none⟩,
      ⟨some 6, (.assign (.tmp 14)), 4, none⟩])
    .ret)
    .skip))
    (.seq (.seq (.reg [] [⟨some 15, (.move (.tmp 0)), 3, none⟩,
      ⟨some 16, (.move (.const (.int .i64 0))), 3, none⟩])
    (.block 0 (.loop (.seq (.reg [] [⟨some 17, (.binOp .lss 3 (.tmp 16) (.tmp 15) 3), 4, none⟩])
    (.seq (.cond (.tmp 17)
    .skip
    (.exit 0))
    (.seq (.block 1 (.seq (.reg [] [⟨some 18, (.move (.tmp 16)), 3, none⟩,
      ⟨some 7, (.assign (.tmp 18)), 3, none⟩])
    (.seq (.reg [] [⟨some 19, (.move (.tmp 1)), 23, none⟩,
      ⟨some 20, (.move (.tmp 7)), 3, none⟩,
      ⟨some 21, (.call ⟨(.value (.func 91)), #[(.tmp 19), (.tmp 20)], #[23, 3]⟩), 4, none⟩,
      ⟨some 22, (.unOp .not 4 (.tmp 21)), 4, none⟩,
      ⟨some 23, (.move (.tmp 22)), 4, none⟩,
      ⟨some 24, (.move (.tmp 0)), 3, some (23, true)⟩,
      ⟨some 25, (.move (.tmp 1)), 23, some (23, true)⟩,
      ⟨some 26, (.call ⟨(.value (.func 63)), #[(.tmp 25)], #[23]⟩), 23, some (23, true)⟩,
      ⟨some 27, (.move (.tmp 7)), 3, some (23, true)⟩,
      ⟨some 28, (.buildSlice 23 1 #[(0, (.tmp 27))]), 23, some (23, true)⟩,
      ⟨some 29, (.call ⟨(.builtin .append), #[(.tmp 26), (.tmp 28)], #[23, 23]⟩), 23, some (23, true)⟩,
      ⟨some 30, (.move (.tmp 2)), 25, some (23, true)⟩,
      ⟨some 31, (.call ⟨(.value (.func 77)), #[(.tmp 24), (.tmp 29), (.tmp 30)], #[3, 23, 25]⟩), 4, some (23, true)⟩,
      ⟨some 32, (.unOp .not 4 (.tmp 31)), 4, some (23, true)⟩,
      ⟨some 33, (.pick (.tmp 23) (.tmp 32) (.const (.bool false))), 4, none⟩])
    (.cond (.tmp 33)
    (.seq (.reg [] [⟨some 6, (.assign (.const (.bool false))), 4, none⟩])
    .ret)
    .skip))))
    (.reg [] [⟨some 34, (.binOp .add 3 (.tmp 16) (.const (.int .i64 1)) 3), 3, none⟩,
      ⟨some 16, (.move (.tmp 34)), 3, none⟩])))))))
    (.seq (.reg [] [⟨some 6, (.assign (.const (.bool true))), 4, none⟩])
    .ret))))
theorem CB77 {xs : List AV} {m m' : List (Nat × Option Box)} {r : AV} (hn : xs.length ≤ 35) (hm : (m.all fun p => p.2.isSome) = true) (h : vc Tryz.prog T [] A77 (FinB T [(.tmp 6)] m r m') ⟨envOf 0 xs, m⟩) : CallB Tryz.prog 77 xs m r m' :=
  callB_of tok mixed Tryz.func77 (by kernel_rfl) (by kernel_rfl) (by kernel_rfl : Tryz.f77.ntmps = 35) (by kernel_rfl : Tryz.f77.body.bind (strip 35 (fun _ => [])) = some A77) hn hm h

def A37 : ACode :=
  (.seq (.reg [] [⟨some 3, (.box 22 (.tmp 1)), 0, none⟩,
      ⟨some 4, (.assign (.const (.slice none 0 0))), 23, none⟩,
      ⟨some 5, (.assign (.const (.bool false))), 4, none⟩,
      ⟨some 6, (.assign (.const (.int .i64 0))), 28, none⟩])
    (.seq (.seq (.reg [] [⟨some 9, (.move (.tmp 0)), 3, none⟩,
      ⟨some 10, (.load 22 (.tmp 3)), 22, none⟩,
      ⟨some 11, (.call ⟨(.value (.func 54)), #[(.tmp 9), (.tmp 10)], #[3, 22]⟩), 28, none⟩,
      ⟨some 7, (.assign (.tmp 11)), 28, none⟩])
    (.seq (.reg [] [⟨some 12, (.move (.tmp 7)), 28, none⟩,
      ⟨some 13, (.binOp .neq 28 (.tmp 12) (.const (.int .i64 0)) 28), 4, none⟩])
    (.cond (.tmp 13)
    (.seq (.reg [] [⟨some 14, (.move (.tmp 7)), 28, none⟩,
      ⟨some 4, (.assign (.const (.slice none 0 0))), 23, none⟩,
      ⟨some 5, (.assign (.const (.bool false))), 4, none⟩,
      ⟨some 6, (.assign (.tmp 14)), 28, none⟩])
    .ret)
    .skip)))
    (.seq (.reg [] [⟨some 8, (.alloc 23), 0, none⟩])
    (.seq (.reg [] [⟨some 15, (.move (.tmp 0)), 3, none⟩,
      ⟨some 16, (.makeFunc (.func 78) #[] #[(.tmp 3), (.tmp 8)]), 25, none⟩,
      ⟨some 17, (.call ⟨(.value (.func 77)), #[(.tmp 15), (.const (.slice none 0 0)), (.tmp 16)], #[3, 23, 25]⟩), 4, none⟩])
    (.seq (.draw [] [⟨some 18, (.load 23 (.tmp 8)), 23, none⟩,
      ⟨some 19, (.load 23 (.tmp 8)), 23, none⟩,
      ⟨some 20, (.binOp .neq 23 (.tmp 19) (.const (.slice none 0 0)) 23), 4, none⟩,
      ⟨some 4, (.assign (.tmp 18)), 23, none⟩,
      ⟨some 5, (.assign (.tmp 20)), 4, none⟩,
      ⟨some 6, (.assign (.const (.int .i64 0))), 28, none⟩] [(0, 1), (0, 2), (1, 3), (2, 3)])
    .ret)))))
theorem C37 {args : List AV} {r : AV} (hn : args.length ≤ 21) (h : vc Tryz.prog T [] A37 (Fin T [(.tmp 4), (.tmp 5), (.tmp 6)] r) ⟨envOf 0 args, []⟩) : CallP Tryz.prog 37 args r :=
  callP_of tok mixed Tryz.func37 (by kernel_rfl) (by kernel_rfl) (by kernel_rfl : Tryz.f37.ntmps = 21) (by kernel_rfl : Tryz.f37.body.bind (strip 21 (fun _ => [])) = some A37) hn h
def A78 : ACode :=
  (.seq (.reg [] [⟨some 4, (.assign (.const (.bool false))), 4, none⟩])
    (.seq (.seq (.reg [] [⟨some 8, (.load 22 (.tmp 1)), 22, none⟩,
      ⟨some 9, (.move (.tmp 0)), 23, none⟩,
      ⟨some 10, (.call ⟨(.value (.func 79)), #[(.tmp 8), (.tmp 9)], #[22, 23]⟩), 71, none⟩,
      ⟨some 7, (.move (.tmp 10)), 71, none⟩,
      ⟨some 11, (.extract (.tmp 7) 0), 23, none⟩,
      ⟨some 12, (.extract (.tmp 7) 1), 4, none⟩,
      ⟨some 5, (.assign (.tmp 11)), 23, none⟩,
      ⟨some 6, (.assign (.tmp 12)), 4, none⟩])
    (.seq (.reg [] [⟨some 13, (.move (.tmp 6)), 4, none⟩])
    (.cond (.tmp 13)
    (.reg [] [⟨some 14, (.move (.tmp 0)), 23, none⟩,
      ⟨none, (.store 23 (.tmp 2) (.tmp 14)), 0, none⟩])
    .skip)))
    (.seq (.reg [] [⟨some 15, (.load 23 (.tmp 2)), 23, none⟩,
      ⟨some 16, (.binOp .eql 23 (.tmp 15) (.const (.slice none 0 0)) 23), 4, none⟩,
      ⟨some 4, (.assign (.tmp 16)), 4, none⟩])
    .ret)))
theorem CB78 {xs : List AV} {m m' : List (Nat × Option Box)} {r : AV} (hn : xs.length ≤ 17) (hm : (m.all fun p => p.2.isSome) = true) (h : vc Tryz.prog T [] A78 (FinB T [(.tmp 4)] m r m') ⟨envOf 0 xs, m⟩) : CallB Tryz.prog 78 xs m r m' :=
  callB_of tok mixed Tryz.func78 (by kernel_rfl) (by kernel_rfl) (by kernel_rfl : Tryz.f78.ntmps = 17) (by kernel_rfl : Tryz.f78.body.bind (strip 17 (fun _ => [])) = some A78) hn hm h

def A74 : ACode :=
  (.seq (.reg [] [⟨some 8, (.assign (.const (.slice none 0 0))), 22, none⟩])
    (.seq (.reg [] [⟨some 15, (.move (.tmp 0)), 22, none⟩,
      ⟨some 16, (.move (.tmp 1)), 3, none⟩,
      ⟨some 17, (.move (.tmp 2)), 3, none⟩,
      ⟨some 18, (.slice 22 (.tmp 15) (some (.tmp 16)) (some (.tmp 17)) none), 22, none⟩])
    (.seq (.seq (.reg [] [⟨some 19, (.move (.tmp 1)), 3, none⟩,
      ⟨some 20, (.move (.tmp 2)), 3, none⟩,
      ⟨some 21, (.binOp .eql 3 (.tmp 19) (.tmp 20) 3), 4, none⟩])
    (.cond (.tmp 21)
    (.seq (.reg [] [⟨some 22, (.move (.tmp 0)), 22, none⟩,
      ⟨some 23, (.move (.tmp 1)), 3, none⟩,
      ⟨some 24, (.move (.tmp 3)), 22, none⟩,
      ⟨some 25, (.call ⟨(.value (.func 98)), #[(.tmp 22), (.tmp 23), (.tmp 24)], #[22, 3, 22]⟩), 22, none⟩,
      ⟨some 8, (.assign (.tmp 25)), 22, none⟩])
    .ret)
    .skip))
    (.seq (.seq (.reg [] [⟨some 26, (.move (.tmp 2)), 3, none⟩,
      ⟨some 27, (.move (.tmp 0)), 22, none⟩,
      ⟨some 28, (.call ⟨(.builtin .len), #[(.tmp 27)], #[22]⟩), 3, none⟩,
      ⟨some 29, (.binOp .eql 3 (.tmp 26) (.tmp 28) 3), 4, none⟩])
    (.cond (.tmp 29)
    (.seq (.reg [] [⟨some 30, (.move (.tmp 0)), 22, none⟩,
      ⟨some 31, (.move (.tmp 1)), 3, none⟩,
      ⟨some 32, (.slice 22 (.tmp 30) none (some (.tmp 31)) none), 22, none⟩,
      ⟨some 33, (.move (.tmp 3)), 22, none⟩,
      ⟨some 34, (.call ⟨(.builtin .append), #[(.tmp 32), (.tmp 33)], #[22, 22]⟩), 22, none⟩,
      ⟨some 9, (.assign (.tmp 34)), 22, none⟩])
    (.seq (.seq (.reg [] [⟨some 35, (.move (.tmp 9)), 22, none⟩,
      ⟨some 36, (.call ⟨(.builtin .len), #[(.tmp 35)], #[22]⟩), 3, none⟩,
      ⟨some 37, (.move (.tmp 0)), 22, none⟩,
      ⟨some 38, (.call ⟨(.builtin .len), #[(.tmp 37)], #[22]⟩), 3, none⟩,
      ⟨some 39, (.binOp .lss 3 (.tmp 36) (.tmp 38) 3), 4, none⟩])
    (.cond (.tmp 39)
    (.reg [] [⟨some 40, (.move (.tmp 0)), 22, none⟩,
      ⟨some 41, (.move (.tmp 9)), 22, none⟩,
      ⟨some 42, (.call ⟨(.builtin .len), #[(.tmp 41)], #[22]⟩), 3, none⟩,
      ⟨some 43, (.slice 22 (.tmp 40) (some (.tmp 42)) none none), 22, none⟩,
      ⟨none, (.call ⟨(.builtin .clear), #[(.tmp 43)], #[22]⟩), 0, none⟩])
    .skip))
    (.seq (.reg [] [⟨some 44, (.move (.tmp 9)), 22, none⟩,
      ⟨some 8, (.assign (.tmp 44)), 22, none⟩])
    .ret)))
    .skip))
    (.seq (.draw [] [⟨some 45, (.move (.tmp 0)), 22, none⟩,
      ⟨some 46, (.move (.tmp 1)), 3, none⟩,
      ⟨some 47, (.slice 22 (.tmp 45) none (some (.tmp 46)) none), 22, none⟩,
      ⟨some 48, (.call ⟨(.builtin .len), #[(.tmp 47)], #[22]⟩), 3, none⟩,
      ⟨some 49, (.move (.tmp 3)), 22, none⟩,
      ⟨some 50, (.call ⟨(.builtin .len), #[(.tmp 49)], #[22]⟩), 3, none⟩,
      ⟨some 51, (.binOp .add 3 (.tmp 48) (.tmp 50) 3), 3, none⟩,
      ⟨some 52, (.move (.tmp 0)), 22, none⟩,
      ⟨some 53, (.move (.tmp 2)), 3, none⟩,
      ⟨some 54, (.slice 22 (.tmp 52) (some (.tmp 53)) none none), 22, none⟩,
      ⟨some 55, (.call ⟨(.builtin .len), #[(.tmp 54)], #[22]⟩), 3, none⟩,
      ⟨some 56, (.binOp .add 3 (.tmp 51) (.tmp 55) 3), 3, none⟩,
      ⟨some 10, (.assign (.tmp 56)), 3, none⟩] [(0, 1), (0, 4), (1, 4), (2, 4), (3, 4), (0, 5), (1, 5), (2, 5), (3, 5), (0, 7), (1, 7), (2, 7), (3, 7), (4, 7), (5, 7), (6, 7), (0, 8), (1, 8), (2, 8), (3, 8), (4, 8), (5, 8), (6, 8), (7, 8), (0, 9), (1, 9), (2, 9), (3, 9), (4, 9), (5, 9), (6, 9), (0, 10), (1, 10), (2, 10), (3, 10), (4, 10), (5, 10), (6, 10)])
    (.seq (.seq (.reg [] [⟨some 57, (.move (.tmp 10)), 3, none⟩,
      ⟨some 58, (.move (.tmp 0)), 22, none⟩,
      ⟨some 59, (.call ⟨(.builtin .cap), #[(.tmp 58)], #[22]⟩), 3, none⟩,
      ⟨some 60, (.binOp .gtr 3 (.tmp 57) (.tmp 59) 3), 4, none⟩])
    (.cond (.tmp 60)
    (.seq (.reg [] [⟨some 61, (.move (.tmp 0)), 22, none⟩,
      ⟨some 62, (.move (.tmp 1)), 3, none⟩,
      ⟨some 63, (.slice 22 (.tmp 61) none (some (.tmp 62)) none), 22, none⟩,
      ⟨some 64, (.move (.tmp 10)), 3, none⟩,
      ⟨some 65, (.move (.tmp 1)), 3, none⟩,
      ⟨some 66, (.binOp .sub 3 (.tmp 64) (.tmp 65) 3), 3, none⟩,
      ⟨some 67, (.call ⟨(.builtin .append), #[(.tmp 63), (.tmp 66)], #[22, 3]⟩), 22, none⟩,
      ⟨some 11, (.assign (.tmp 67)), 22, none⟩])
    (.seq (.reg [] [⟨some 68, (.move (.tmp 11)), 22, none⟩,
      ⟨some 69, (.move (.tmp 1)), 3, none⟩,
      ⟨some 70, (.slice 22 (.tmp 68) (some (.tmp 69)) none none), 22, none⟩,
      ⟨some 71, (.move (.tmp 3)), 22, none⟩,
      ⟨some 72, (.call ⟨(.builtin .copy), #[(.tmp 70), (.tmp 71)], #[22, 22]⟩), 3, none⟩])
    (.seq (.draw [] [⟨some 73, (.move (.tmp 11)), 22, none⟩,
      ⟨some 74, (.move (.tmp 1)), 3, none⟩,
      ⟨some 75, (.move (.tmp 3)), 22, none⟩,
      ⟨some 76, (.call ⟨(.builtin .len), #[(.tmp 75)], #[22]⟩), 3, none⟩,
      ⟨some 77, (.binOp .add 3 (.tmp 74) (.tmp 76) 3), 3, none⟩,
      ⟨some 78, (.slice 22 (.tmp 73) (some (.tmp 77)) none none), 22, none⟩,
      ⟨some 79, (.move (.tmp 0)), 22, none⟩,
      ⟨some 80, (.move (.tmp 2)), 3, none⟩,
      ⟨some 81, (.slice 22 (.tmp 79) (some (.tmp 80)) none none), 22, none⟩,
      ⟨some 82, (.call ⟨(.builtin .copy), #[(.tmp 78), (.tmp 81)], #[22, 22]⟩), 3, none⟩] [(0, 1), (0, 2), (1, 2), (0, 3), (1, 3), (0, 4), (0, 6), (1, 6), (2, 6), (3, 6), (4, 6), (5, 6), (0, 7), (1, 7), (2, 7), (3, 7), (4, 7), (5, 7), (6, 7), (0, 8), (1, 8), (2, 8), (3, 8), (4, 8), (5, 8)])
    (.seq (.reg [] [⟨some 83, (.move (.tmp 11)), 22, none⟩,
      ⟨some 8, (.assign (.tmp 83)), 22, none⟩])
    .ret))))
    .skip))
    (.seq (.reg [] [⟨some 84, (.move (.tmp 0)), 22, none⟩,
      ⟨some 85, (.move (.tmp 10)), 3, none⟩,
      ⟨some 86, (.slice 22 (.tmp 84) none (some (.tmp 85)) none), 22, none⟩,
      ⟨some 12, (.assign (.tmp 86)), 22, none⟩])
    (.seq (.seq (.reg [] [⟨some 87, (.move (.tmp 1)), 3, none⟩,
      ⟨some 88, (.move (.tmp 3)), 22, none⟩,
      ⟨some 89, (.call ⟨(.builtin .len), #[(.tmp 88)], #[22]⟩), 3, none⟩,
      ⟨some 90, (.binOp .add 3 (.tmp 87) (.tmp 89) 3), 3, none⟩,
      ⟨some 91, (.move (.tmp 2)), 3, none⟩,
      ⟨some 92, (.binOp .leq 3 (.tmp 90) (.tmp 91) 3), 4, none⟩])
    (.cond (.tmp 92)
    (.seq (.reg [] [⟨some 93, (.move (.tmp 12)), 22, none⟩,
      ⟨some 94, (.move (.tmp 1)), 3, none⟩,
      ⟨some 95, (.slice 22 (.tmp 93) (some (.tmp 94)) none none), 22, none⟩,
      ⟨some 96, (.move (.tmp 3)), 22, none⟩,
      ⟨some 97, (.call ⟨(.builtin .copy), #[(.tmp 95), (.tmp 96)], #[22, 22]⟩), 3, none⟩])
    (.seq (.draw [] [⟨some 98, (.move (.tmp 12)), 22, none⟩,
      ⟨some 99, (.move (.tmp 1)), 3, none⟩,
      ⟨some 100, (.move (.tmp 3)), 22, none⟩,
      ⟨some 101, (.call ⟨(.builtin .len), #[(.tmp 100)], #[22]⟩), 3, none⟩,
      ⟨some 102, (.binOp .add 3 (.tmp 99) (.tmp 101) 3), 3, none⟩,
      ⟨some 103, (.slice 22 (.tmp 98) (some (.tmp 102)) none none), 22, none⟩,
      ⟨some 104, (.move (.tmp 0)), 22, none⟩,
      ⟨some 105, (.move (.tmp 2)), 3, none⟩,
      ⟨some 106, (.slice 22 (.tmp 104) (some (.tmp 105)) none none), 22, none⟩,
      ⟨some 107, (.call ⟨(.builtin .copy), #[(.tmp 103), (.tmp 106)], #[22, 22]⟩), 3, none⟩] [(0, 1), (0, 2), (1, 2), (0, 3), (1, 3), (0, 4), (0, 6), (1, 6), (2, 6), (3, 6), (4, 6), (5, 6), (0, 7), (1, 7), (2, 7), (3, 7), (4, 7), (5, 7), (6, 7), (0, 8), (1, 8), (2, 8), (3, 8), (4, 8), (5, 8)])
    (.seq (.reg [] [⟨some 108, (.move (.tmp 0)), 22, none⟩,
      ⟨some 109, (.move (.tmp 10)), 3, none⟩,
      ⟨some 110, (.slice 22 (.tmp 108) (some (.tmp 109)) none none), 22, none⟩,
      ⟨none, (.call ⟨(.builtin .clear), #[(.tmp 110)], #[22]⟩), 0, none⟩])
    (.seq (.reg [] [⟨some 111, (.move (.tmp 12)), 22, none⟩,
      ⟨some 8, (.assign (.tmp 111)), 22, none⟩])
    .ret))))
    .skip))
    (.seq (.seq (.reg [] [⟨some 112, (.move (.tmp 12)), 22, none⟩,
      ⟨some 113, (.move (.tmp 1)), 3, none⟩,
      ⟨some 114, (.move (.tmp 3)), 22, none⟩,
      ⟨some 115, (.call ⟨(.builtin .len), #[(.tmp 114)], #[22]⟩), 3, none⟩,
      ⟨some 116, (.binOp .add 3 (.tmp 113) (.tmp 115) 3), 3, none⟩,
      ⟨some 117, (.slice 22 (.tmp 112) (some (.tmp 116)) none none), 22, none⟩,
      ⟨some 118, (.move (.tmp 3)), 22, none⟩,
      ⟨some 119, (.call ⟨(.value (.func 99)), #[(.tmp 117), (.tmp 118)], #[22, 22]⟩), 4, none⟩,
      ⟨some 120, (.unOp .not 4 (.tmp 119)), 4, none⟩])
    (.cond (.tmp 120)
    (.seq (.draw [] [⟨some 121, (.move (.tmp 12)), 22, none⟩,
      ⟨some 122, (.move (.tmp 1)), 3, none⟩,
      ⟨some 123, (.move (.tmp 3)), 22, none⟩,
      ⟨some 124, (.call ⟨(.builtin .len), #[(.tmp 123)], #[22]⟩), 3, none⟩,
      ⟨some 125, (.binOp .add 3 (.tmp 122) (.tmp 124) 3), 3, none⟩,
      ⟨some 126, (.slice 22 (.tmp 121) (some (.tmp 125)) none none), 22, none⟩,
      ⟨some 127, (.move (.tmp 0)), 22, none⟩,
      ⟨some 128, (.move (.tmp 2)), 3, none⟩,
      ⟨some 129, (.slice 22 (.tmp 127) (some (.tmp 128)) none none), 22, none⟩,
      ⟨some 130, (.call ⟨(.builtin .copy), #[(.tmp 126), (.tmp 129)], #[22, 22]⟩), 3, none⟩] [(0, 1), (0, 2), (1, 2), (0, 3), (1, 3), (0, 4), (0, 6), (1, 6), (2, 6), (3, 6), (4, 6), (5, 6), (0, 7), (1, 7), (2, 7), (3, 7), (4, 7), (5, 7), (6, 7), (0, 8), (1, 8), (2, 8), (3, 8), (4, 8), (5, 8)])
    (.seq (.reg [] [⟨some 131, (.move (.tmp 12)), 22, none⟩,
      ⟨some 132, (.move (.tmp 1)), 3, none⟩,
      ⟨some 133, (.slice 22 (.tmp 131) (some (.tmp 132)) none none), 22, none⟩,
      ⟨some 134, (.move (.tmp 3)), 22, none⟩,
      ⟨some 135, (.call ⟨(.builtin .copy), #[(.tmp 133), (.tmp 134)], #[22, 22]⟩), 3, none⟩])
    (.seq (.reg [] [⟨some 136, (.move (.tmp 12)), 22, none⟩,
      ⟨some 8, (.assign (.tmp 136)), 22, none⟩])
    .ret)))
    .skip))
    (.seq (.reg [] [⟨some 137, (.move (.tmp 3)), 22, none⟩,
      ⟨some 138, (.call ⟨(.builtin .len), #[(.tmp 137)], #[22]⟩), 3, none⟩,
      ⟨some 139, (.move (.tmp 2)), 3, none⟩,
      ⟨some 140, (.move (.tmp 1)), 3, none⟩,
      ⟨some 141, (.binOp .sub 3 (.tmp 139) (.tmp 140) 3), 3, none⟩,
      ⟨some 142, (.binOp .sub 3 (.tmp 138) (.tmp 141) 3), 3, none⟩,
      ⟨some 13, (.assign (.tmp 142)), 3, none⟩])
    (.seq (.seq (.reg [] [⟨some 143, (.move (.tmp 12)), 22, none⟩,
      ⟨some 144, (.move (.tmp 1)), 3, none⟩,
      ⟨some 145, (.move (.tmp 2)), 3, none⟩,
      ⟨some 146, (.slice 22 (.tmp 143) (some (.tmp 144)) (some (.tmp 145)) none), 22, none⟩,
      ⟨some 147, (.move (.tmp 3)), 22, none⟩,
      ⟨some 148, (.call ⟨(.value (.func 99)), #[(.tmp 146), (.tmp 147)], #[22, 22]⟩), 4, none⟩,
      ⟨some 149, (.unOp .not 4 (.tmp 148)), 4, none⟩])
    (.cond (.tmp 149)
    (.seq (.draw [] [⟨some 150, (.move (.tmp 12)), 22, none⟩,
      ⟨some 151, (.move (.tmp 1)), 3, none⟩,
      ⟨some 152, (.move (.tmp 2)), 3, none⟩,
      ⟨some 153, (.slice 22 (.tmp 150) (some (.tmp 151)) (some (.tmp 152)) none), 22, none⟩,
      ⟨some 154, (.move (.tmp 3)), 22, none⟩,
      ⟨some 155, (.move (.tmp 13)), 3, none⟩,
      ⟨some 156, (.slice 22 (.tmp 154) (some (.tmp 155)) none none), 22, none⟩,
      ⟨some 157, (.call ⟨(.builtin .copy), #[(.tmp 153), (.tmp 156)], #[22, 22]⟩), 3, none⟩] [(0, 1), (0, 2), (1, 2), (0, 4), (1, 4), (2, 4), (3, 4), (0, 5), (1, 5), (2, 5), (3, 5), (4, 5), (0, 6), (1, 6), (2, 6), (3, 6)])
    (.seq (.draw [] [⟨some 158, (.move (.tmp 12)), 22, none⟩,
      ⟨some 159, (.move (.tmp 0)), 22, none⟩,
      ⟨some 160, (.call ⟨(.builtin .len), #[(.tmp 159)], #[22]⟩), 3, none⟩,
      ⟨some 161, (.slice 22 (.tmp 158) (some (.tmp 160)) none none), 22, none⟩,
      ⟨some 162, (.move (.tmp 3)), 22, none⟩,
      ⟨some 163, (.move (.tmp 13)), 3, none⟩,
      ⟨some 164, (.slice 22 (.tmp 162) none (some (.tmp 163)) none), 22, none⟩,
      ⟨some 165, (.call ⟨(.builtin .copy), #[(.tmp 161), (.tmp 164)], #[22, 22]⟩), 3, none⟩] [(0, 1), (0, 2), (0, 4), (1, 4), (2, 4), (3, 4), (0, 5), (1, 5), (2, 5), (3, 5), (4, 5), (0, 6), (1, 6), (2, 6), (3, 6)])
    (.seq (.reg [] [⟨some 166, (.move (.tmp 12)), 22, none⟩,
      ⟨some 167, (.move (.tmp 1)), 3, none⟩,
      ⟨some 168, (.slice 22 (.tmp 166) (some (.tmp 167)) none none), 22, none⟩,
      ⟨some 169, (.move (.tmp 13)), 3, none⟩,
      ⟨some 170, (.call ⟨(.value (.func 100)), #[(.tmp 168), (.tmp 169)], #[22, 3]⟩), 0, none⟩])
    (.seq (.reg [] [⟨some 171, (.move (.tmp 12)), 22, none⟩,
      ⟨some 8, (.assign (.tmp 171)), 22, none⟩])
    .ret))))
    .skip))
    (.seq (.seq (.reg [] [⟨some 172, (.move (.tmp 12)), 22, none⟩,
      ⟨some 173, (.move (.tmp 0)), 22, none⟩,
      ⟨some 174, (.call ⟨(.builtin .len), #[(.tmp 173)], #[22]⟩), 3, none⟩,
      ⟨some 175, (.slice 22 (.tmp 172) (some (.tmp 174)) none none), 22, none⟩,
      ⟨some 176, (.move (.tmp 3)), 22, none⟩,
      ⟨some 177, (.call ⟨(.value (.func 99)), #[(.tmp 175), (.tmp 176)], #[22, 22]⟩), 4, none⟩,
      ⟨some 178, (.unOp .not 4 (.tmp 177)), 4, none⟩])
    (.cond (.tmp 178)
    (.seq (.draw [] [⟨some 179, (.move (.tmp 12)), 22, none⟩,
      ⟨some 180, (.move (.tmp 0)), 22, none⟩,
      ⟨some 181, (.call ⟨(.builtin .len), #[(.tmp 180)], #[22]⟩), 3, none⟩,
      ⟨some 182, (.slice 22 (.tmp 179) (some (.tmp 181)) none none), 22, none⟩,
      ⟨some 183, (.move (.tmp 3)), 22, none⟩,
      ⟨some 184, (.move (.tmp 13)), 3, none⟩,
      ⟨some 185, (.slice 22 (.tmp 183) none (some (.tmp 184)) none), 22, none⟩,
      ⟨some 186, (.call ⟨(.builtin .copy), #[(.tmp 182), (.tmp 185)], #[22, 22]⟩), 3, none⟩] [(0, 1), (0, 2), (0, 4), (1, 4), (2, 4), (3, 4), (0, 5), (1, 5), (2, 5), (3, 5), (4, 5), (0, 6), (1, 6), (2, 6), (3, 6)])
    (.seq (.draw [] [⟨some 187, (.move (.tmp 12)), 22, none⟩,
      ⟨some 188, (.move (.tmp 1)), 3, none⟩,
      ⟨some 189, (.move (.tmp 2)), 3, none⟩,
      ⟨some 190, (.slice 22 (.tmp 187) (some (.tmp 188)) (some (.tmp 189)) none), 22, none⟩,
      ⟨some 191, (.move (.tmp 3)), 22, none⟩,
      ⟨some 192, (.move (.tmp 13)), 3, none⟩,
      ⟨some 193, (.slice 22 (.tmp 191) (some (.tmp 192)) none none), 22, none⟩,
      ⟨some 194, (.call ⟨(.builtin .copy), #[(.tmp 190), (.tmp 193)], #[22, 22]⟩), 3, none⟩] [(0, 1), (0, 2), (1, 2), (0, 4), (1, 4), (2, 4), (3, 4), (0, 5), (1, 5), (2, 5), (3, 5), (4, 5), (0, 6), (1, 6), (2, 6), (3, 6)])
    (.seq (.reg [] [⟨some 195, (.move (.tmp 12)), 22, none⟩,
      ⟨some 196, (.move (.tmp 1)), 3, none⟩,
      ⟨some 197, (.slice 22 (.tmp 195) (some (.tmp 196)) none none), 22, none⟩,
      ⟨some 198, (.move (.tmp 13)), 3, none⟩,
      ⟨some 199, (.call ⟨(.value (.func 100)), #[(.tmp 197), (.tmp 198)], #[22, 3]⟩), 0, none⟩])
    (.seq (.reg [] [⟨some 200, (.move (.tmp 12)), 22, none⟩,
      ⟨some 8, (.assign (.tmp 200)), 22, none⟩])
    .ret))))
    .skip))
    (.seq (.reg [] [⟨some 201, (.move (.tmp 3)), 22, none⟩,
      ⟨some 202, (.move (.tmp 0)), 22, none⟩,
      ⟨some 203, (.move (.tmp 2)), 3, none⟩,
      ⟨some 204, (.slice 22 (.tmp 202) (some (.tmp 203)) none none), 22, none⟩,
      ⟨some 205, (.call ⟨(.value (.func 101)), #[(.tmp 201), (.tmp 204)], #[22, 22]⟩), 3, none⟩,
      ⟨some 14, (.assign (.tmp 205)), 3, none⟩])
    (.seq (.reg [] [⟨some 206, (.move (.tmp 12)), 22, none⟩,
      ⟨some 207, (.move (.tmp 1)), 3, none⟩,
      ⟨some 208, (.slice 22 (.tmp 206) (some (.tmp 207)) none none), 22, none⟩,
      ⟨some 209, (.move (.tmp 3)), 22, none⟩,
      ⟨some 210, (.call ⟨(.builtin .copy), #[(.tmp 208), (.tmp 209)], #[22, 22]⟩), 3, none⟩])
    (.seq (.draw [] [⟨some 211, (.move (.tmp 12)), 22, none⟩,
      ⟨some 212, (.move (.tmp 1)), 3, none⟩,
      ⟨some 213, (.move (.tmp 3)), 22, none⟩,
      ⟨some 214, (.call ⟨(.builtin .len), #[(.tmp 213)], #[22]⟩), 3, none⟩,
      ⟨some 215, (.binOp .add 3 (.tmp 212) (.tmp 214) 3), 3, none⟩,
      ⟨some 216, (.slice 22 (.tmp 211) (some (.tmp 215)) none none), 22, none⟩,
      ⟨some 217, (.move (.tmp 12)), 22, none⟩,
      ⟨some 218, (.move (.tmp 1)), 3, none⟩,
      ⟨some 219, (.move (.tmp 14)), 3, none⟩,
      ⟨some 220, (.binOp .add 3 (.tmp 218) (.tmp 219) 3), 3, none⟩,
      ⟨some 221, (.slice 22 (.tmp 217) (some (.tmp 220)) none none), 22, none⟩,
      ⟨some 222, (.call ⟨(.builtin .copy), #[(.tmp 216), (.tmp 221)], #[22, 22]⟩), 3, none⟩] [(0, 1), (0, 2), (1, 2), (0, 3), (1, 3), (0, 4), (0, 6), (1, 6), (2, 6), (3, 6), (4, 6), (5, 6), (0, 7), (1, 7), (2, 7), (3, 7), (4, 7), (5, 7), (6, 7), (0, 8), (1, 8), (2, 8), (3, 8), (4, 8), (5, 8), (6, 8), (7, 8), (0, 9), (1, 9), (2, 9), (3, 9), (4, 9), (5, 9), (6, 9), (0, 10), (1, 10), (2, 10), (3, 10), (4, 10), (5, 10)])
    (.seq (.reg [] [⟨some 223, (.move (.tmp 12)), 22, none⟩,
      ⟨some 8, (.assign (.tmp 223)), 22, none⟩])
    .ret))))))))))))))))
theorem CB74 {xs : List AV} {m m' : List (Nat × Option Box)} {r : AV} (hn : xs.length ≤ 224) (hm : (m.all fun p => p.2.isSome) = true) (h : vc Tryz.prog T [] A74 (FinB T [(.tmp 8)] m r m') ⟨envOf 0 xs, m⟩) : CallB Tryz.prog 74 xs m r m' :=
  callB_of tok mixed Tryz.func74 (by kernel_rfl) (by kernel_rfl) (by kernel_rfl : Tryz.f74.ntmps = 224) (by kernel_rfl : Tryz.f74.body.bind (strip 224 (fun _ => [])) = some A74) hn hm h

def A108 : ACode :=
  (.seq (.reg [] [⟨some 2, (.assign (.const (.int .i64 0))), 3, none⟩])
    (.seq (.reg [] [⟨some 3, (.assign (.const (.int .i64 0))), 3, none⟩])
    (.seq (.seq (.reg [] [⟨some 6, (.move (.tmp 0)), 23, none⟩,
      ⟨some 7, (.call ⟨(.builtin .len), #[(.tmp 6)], #[23]⟩), 3, none⟩,
      ⟨some 8, (.move (.const (.int .i64 0))), 3, none⟩])
    (.block 0 (.loop (.seq (.reg [] [⟨some 9, (.binOp .lss 3 (.tmp 8) (.tmp 7) 3), 0, none⟩])
    (.seq (.cond (.tmp 9)
    .skip
    (.exit 0))
    (.seq (.block 1 (.seq (.reg [] [⟨some 10, (.indexAddr 23 (.tmp 6) (.tmp 8)), 0, none⟩,
      ⟨some 11, (.load 3 (.tmp 10)), 3, none⟩,
      ⟨some 5, (.assign (.tmp 11)), 3, none⟩])
    (.seq (.reg [] [⟨some 12, (.move (.tmp 5)), 3, none⟩,
      ⟨some 13, (.move (.tmp 3)), 3, none⟩,
      ⟨some 14, (.binOp .neq 3 (.tmp 12) (.tmp 13) 3), 4, none⟩])
    (.cond (.tmp 14)
    (.seq (.reg [] [⟨some 15, (.move (.tmp 5)), 3, none⟩,
      ⟨some 2, (.assign (.tmp 15)), 3, none⟩])
    .ret)
    .skip))))
    (.reg [] [⟨some 16, (.binOp .add 3 (.tmp 8) (.const (.int .i64 1)) 3), 3, none⟩,
      ⟨some 8, (.move (.tmp 16)), 3, none⟩])))))))
    (.seq (.reg [] [⟨some 17, (.move (.tmp 3)), 3, none⟩,
      ⟨some 2, (.assign (.tmp 17)), 3, none⟩])
    .ret))))
theorem C108 {args : List AV} {r : AV} (hn : args.length ≤ 18) (h : vc Tryz.prog T [] A108 (Fin T [(.tmp 2)] r) ⟨envOf 0 args, []⟩) : CallP Tryz.prog 108 args r :=
  callP_of tok mixed Tryz.func108 (by kernel_rfl) (by kernel_rfl) (by kernel_rfl : Tryz.f108.ntmps = 18) (by kernel_rfl : Tryz.f108.body.bind (strip 18 (fun _ => [])) = some A108) hn h

end Go.Proofs.YtgfgkfkplidncaaGreat
end

section
/- Functions of the cut as the value layer reads them. (written by gen.py) -/
set_option maxRecDepth 20000
namespace Go.Proofs.YtgfgkfkplidncaaGreat
open Go.Abs Go

def A61 : ACode :=
  (.seq (.reg [] [⟨some 2, (.assign (.const (.slice none 0 0))), 23, none⟩])
    (.seq (.reg [] [⟨some 3, (.assign (.const (.slice none 0 0))), 23, none⟩])
    (.seq (.seq (.reg [] [⟨some 4, (.assign (.const (.int .i64 0))), 3, none⟩])
    (.block 0 (.loop (.seq (.seq (.reg [] [⟨some 5, (.move (.tmp 4)), 3, none⟩,
      ⟨some 6, (.move (.tmp 0)), 22, none⟩,
      ⟨some 7, (.call ⟨(.builtin .len), #[(.tmp 6)], #[22]⟩), 3, none⟩,
      ⟨some 8, (.binOp .lss 3 (.tmp 5) (.tmp 7) 3), 4, none⟩])
    (.cond (.tmp 8)
    .skip
    (.exit 0)))
    (.seq (.block 1 (.reg [] [⟨some 11, (.move (.tmp 3)), 23, none⟩,
      ⟨some 12, (.move (.tmp 0)), 22, none⟩,
      ⟨some 13, (.move (.tmp 4)), 3, none⟩,
      ⟨some 14, (.indexAddr 22 (.tmp 12) (.tmp 13)), 0, none⟩,
      ⟨some 15, (.load 23 (.tmp 14)), 23, none⟩,
      ⟨some 16, (.call ⟨(.builtin .append), #[(.tmp 11), (.tmp 15)], #[23, 23]⟩), 23, none⟩,
      ⟨some 3, (.assign (.tmp 16)), 23, none⟩]))
    (.reg [] [⟨some 9, (.move (.tmp 4)), 3, none⟩,
      ⟨some 10, (.binOp .add 3 (.tmp 9) (.const (.int .i64 1)) 3), 3, none⟩,
      ⟨some 4, (.assign (.tmp 10)), 3, none⟩]))))))
    (.seq (.reg [] [⟨some 17, (.move (.tmp 3)), 23, none⟩,
      ⟨some 2, (.assign (.tmp 17)), 23, none⟩])
    .ret))))
theorem C61 {args : List AV} {r : AV} (hn : args.length ≤ 18) (h : vc Tryz.prog T [] A61 (Fin T [(.tmp 2)] r) ⟨envOf 0 args, []⟩) : CallP Tryz.prog 61 args r :=
  callP_of tok mixed Tryz.func61 (by kernel_rfl) (by kernel_rfl) (by kernel_rfl : Tryz.f61.ntmps = 18) (by kernel_rfl : Tryz.f61.body.bind (strip 18 (fun _ => [])) = some A61) hn h
def A50 : ACode :=
  (.seq (.reg [] [⟨some 2, (.assign (.const (.int .i64 0))), 28, none⟩])
    (.seq (.seq (.reg [] [⟨some 7, (.move (.tmp 0)), 22, none⟩,
      ⟨some 8, (.call ⟨(.builtin .len), #[(.tmp 7)], #[22]⟩), 3, none⟩,
      ⟨some 9, (.call ⟨(.value (.func 76)), #[(.tmp 8), (.const (.int .i64 1)), (.const (.int .i64 6))], #[3, 3, 3]⟩), 4, none⟩,
      ⟨some 10, (.unOp .not 4 (.tmp 9)), 4, none⟩])
    (.cond (.tmp 10)
    (.seq (.reg [] [⟨some 2, (.assign (.const (.int .i64 3))), 28, none⟩])
    .ret)
    .skip))
    (.seq (.seq (.reg [] [⟨some 3, (.assign (.const (.int .i64 0))), 3, none⟩])
    (.block 0 (.loop (.seq (.seq (.reg [] [⟨some 11, (.move (.tmp 3)), 3, none⟩,
      ⟨some 12, (.move (.tmp 0)), 22, none⟩,
      ⟨some 13, (.call ⟨(.builtin .len), #[(.tmp 12)], #[22]⟩), 3, none⟩,
      ⟨some 14, (.binOp .lss 3 (.tmp 11) (.tmp 13) 3), 4, none⟩])
    (.cond (.tmp 14)
    .skip
    (.exit 0)))
    (.seq (.block 1 (.seq (.seq (.reg [] [⟨some 17, (.move (.tmp 0)), 22, none⟩,
      ⟨some 18, (.move (.tmp 3)), 3, none⟩,
      ⟨some 19, (.indexAddr 22 (.tmp 17) (.tmp 18)), 0, none⟩,
      ⟨some 20, (.load 23 (.tmp 19)), 23, none⟩,
      ⟨some 21, (.call ⟨(.builtin .len), #[(.tmp 20)], #[23]⟩), 3, none⟩,
      ⟨some 22, (.binOp .eql 3 (.tmp 21) (.const (.int .i64 0)) 3), 4, none⟩])
    (.cond (.tmp 22)
    (.seq (.reg [] [⟨some 2, (.assign (.const (.int .i64 1))), 28, none⟩])
    .ret)
    .skip))
    (.seq (.reg [] [⟨some 4, (.assign (.const (.int .i64 0))), 3, none⟩])
    (.block 2 (.loop (.seq (.seq (.reg [] [⟨some 23, (.move (.tmp 4)), 3, none⟩,
      ⟨some 24, (.move (.tmp 0)), 22, none⟩,
      ⟨some 25, (.move (.tmp 3)), 3, none⟩,
      ⟨some 26, (.indexAddr 22 (.tmp 24) (.tmp 25)), 0, none⟩,
      ⟨some 27, (.load 23 (.tmp 26)), 23, none⟩,
      ⟨some 28, (.call ⟨(.builtin .len), #[(.tmp 27)], #[23]⟩), 3, none⟩,
      ⟨some 29, (.binOp .lss 3 (.tmp 23) (.tmp 28) 3), 4, none⟩])
    (.cond (.tmp 29)
    .skip
    (.exit 2)))
    (.seq (.block 3 (.seq (.reg [] [⟨some 32, (.move (.tmp 0)), 22, none⟩,
      ⟨some 33, (.move (.tmp 3)), 3, none⟩,
      ⟨some 34, (.indexAddr 22 (.tmp 32) (.tmp 33)), 0, none⟩,
      ⟨some 35, (.load 23 (.tmp 34)), 23, none⟩,
      ⟨some 36, (.move (.tmp 4)), 3, none⟩,
      ⟨some 37, (.indexAddr 23 (.tmp 35) (.tmp 36)), 0, none⟩,
      ⟨some 38, (.load 3 (.tmp 37)), 3, none⟩,
      ⟨some 39, (.call ⟨(.value (.func 76)), #[(.tmp 38), (.const (.int .i64 0)), (.const (.int .i64 5))], #[3, 3, 3]⟩), 4, none⟩,
      ⟨some 40, (.unOp .not 4 (.tmp 39)), 4, none⟩])
    (.cond (.tmp 40)
    (.seq (.reg [] [⟨some 2, (.assign (.const (.int .i64 1))), 28, none⟩])
    .ret)
    .skip)))
    (.reg [] [⟨some 30, (.move (.tmp 4)), 3, none⟩,
      ⟨some 31, (.binOp .add 3 (.tmp 30) (.const (.int .i64 1)) 3), 3, none⟩,
      ⟨some 4, (.assign (.tmp 31)), 3, none⟩]))))))))
    (.reg [] [⟨some 15, (.move (.tmp 3)), 3, none⟩,
      ⟨some 16, (.binOp .add 3 (.tmp 15) (.const (.int .i64 1)) 3), 3, none⟩,
      ⟨some 3, (.assign (.tmp 16)), 3, none⟩]))))))
    (.seq (.reg [] [⟨some 41, (.move (.tmp 0)), 22, none⟩,
      ⟨some 42, (.call ⟨(.value (.func 61)), #[(.tmp 41)], #[22]⟩), 23, none⟩,
      ⟨some 5, (.assign (.tmp 42)), 23, none⟩])
    (.seq (.seq (.reg [] [⟨some 6, (.assign (.const (.int .i64 0))), 3, none⟩])
    (.block 4 (.loop (.seq (.seq (.reg [] [⟨some 43, (.move (.tmp 6)), 3, none⟩,
      ⟨some 44, (.move (.tmp 5)), 23, none⟩,
      ⟨some 45, (.call ⟨(.builtin .len), #[(.tmp 44)], #[23]⟩), 3, none⟩,
      ⟨some 46, (.binOp .lss 3 (.tmp 43) (.tmp 45) 3), 4, none⟩])
    (.cond (.tmp 46)
    .skip
    (.exit 4)))
    (.seq (.block 5 (.seq (.draw [] [⟨some 49, (.move (.tmp 5)), 23, none⟩,
      ⟨some 50, (.move (.tmp 6)), 3, none⟩,
      ⟨some 51, (.slice 23 (.tmp 49) none (some (.tmp 50)) none), 23, none⟩,
      ⟨some 52, (.move (.tmp 5)), 23, none⟩,
      ⟨some 53, (.move (.tmp 6)), 3, none⟩,
      ⟨some 54, (.indexAddr 23 (.tmp 52) (.tmp 53)), 0, none⟩,
      ⟨some 55, (.load 3 (.tmp 54)), 3, none⟩,
      ⟨some 56, (.call ⟨(.value (.func 80)), #[(.tmp 51), (.tmp 55)], #[23, 3]⟩), 4, none⟩] [(0, 1), (0, 3), (1, 3), (2, 3), (0, 4), (1, 4), (2, 4), (3, 4), (0, 5), (1, 5), (2, 5), (0, 6), (1, 6), (2, 6)])
    (.cond (.tmp 56)
    (.seq (.reg [] [⟨some 2, (.assign (.const (.int .i64 5))), 28, none⟩])
    .ret)
    .skip)))
    (.reg [] [⟨some 47, (.move (.tmp 6)), 3, none⟩,
      ⟨some 48, (.binOp .add 3 (.tmp 47) (.const (.int .i64 1)) 3), 3, none⟩,
      ⟨some 6, (.assign (.tmp 48)), 3, none⟩]))))))
    (.seq (.reg [] [⟨some 2, (.assign (.const (.int .i64 0))), 28, none⟩])
    .ret))))))
theorem C50 {args : List AV} {r : AV} (hn : args.length ≤ 57) (h : vc Tryz.prog T [] A50 (Fin T [(.tmp 2)] r) ⟨envOf 0 args, []⟩) : CallP Tryz.prog 50 args r :=
  callP_of tok mixed Tryz.func50 (by kernel_rfl) (by kernel_rfl) (by kernel_rfl : Tryz.f50.ntmps = 57) (by kernel_rfl : Tryz.f50.body.bind (strip 57 (fun _ => [])) = some A50) hn h
def A32 : ACode :=
  (.seq (.reg [] [⟨some 4, (.assign (.const (.slice none 0 0))), 22, none⟩,
      ⟨some 5, (.assign (.const (.int .i64 0))), 28, none⟩])
    (.seq (.seq (.reg [] [⟨some 9, (.move (.tmp 0)), 22, none⟩,
      ⟨some 10, (.call ⟨(.value (.func 50)), #[(.tmp 9)], #[22]⟩), 28, none⟩,
      ⟨some 6, (.assign (.tmp 10)), 28, none⟩])
    (.seq (.reg [] [⟨some 11, (.move (.tmp 6)), 28, none⟩,
      ⟨some 12, (.binOp .neq 28 (.tmp 11) (.const (.int .i64 0)) 28), 4, none⟩])
    (.cond (.tmp 12)
    (.seq (.reg [] [⟨some 13, (.move (.tmp 6)), 28, none⟩,
      ⟨some 4, (.assign (.const (.slice none 0 0))), 22, none⟩,
      ⟨some 5, (.assign (.tmp 13)), 28, none⟩])
    .ret)
    .skip)))
    (.seq (.seq (.reg [] [⟨some 14, (.move (.tmp 1)), 3, none⟩,
      ⟨some 15, (.move (.tmp 0)), 22, none⟩,
      ⟨some 16, (.call ⟨(.builtin .len), #[(.tmp 15)], #[22]⟩), 3, none⟩,
      ⟨some 17, (.binOp .sub 3 (.tmp 16) (.const (.int .i64 2)) 3), 3, none⟩,
      ⟨some 18, (.call ⟨(.value (.func 76)), #[(.tmp 14), (.const (.int .i64 0)), (.tmp 17)], #[3, 3, 3]⟩), 4, none⟩,
      ⟨some 19, (.unOp .not 4 (.tmp 18)), 4, none⟩])
    (.cond (.tmp 19)
    (.seq (.reg [] [⟨some 4, (.assign (.const (.slice none 0 0))), 22, none⟩,
      ⟨some 5, (.assign (.const (.int .i64 4))), 28, none⟩])
    .ret)
    .skip))
    (.seq (.reg [] [⟨some 7, (.assign (.const (.slice none 0 0))), 22, none⟩])
    (.seq (.seq (.reg [] [⟨some 8, (.assign (.const (.int .i64 0))), 3, none⟩])
    (.block 0 (.loop (.seq (.seq (.reg [] [⟨some 20, (.move (.tmp 8)), 3, none⟩,
      ⟨some 21, (.move (.tmp 0)), 22, none⟩,
      ⟨some 22, (.call ⟨(.builtin .len), #[(.tmp 21)], #[22]⟩), 3, none⟩,
      ⟨some 23, (.binOp .lss 3 (.tmp 20) (.tmp 22) 3), 4, none⟩])
    (.cond (.tmp 23)
    .skip
    (.exit 0)))
    (.seq (.block 1 (.seq (.reg [] [⟨some 26, (.move (.tmp 8)), 3, none⟩,
      ⟨some 27, (.move (.tmp 1)), 3, none⟩,
      ⟨some 28, (.binOp .add 3 (.tmp 27) (.const (.int .i64 1)) 3), 3, none⟩,
      ⟨some 29, (.binOp .eql 3 (.tmp 26) (.tmp 28) 3), 4, none⟩])
    (.cond (.tmp 29)
    (.draw [] [⟨some 30, (.move (.tmp 7)), 22, none⟩,
      ⟨some 31, (.move (.tmp 1)), 3, none⟩,
      ⟨some 32, (.move (.tmp 7)), 22, none⟩,
      ⟨some 33, (.move (.tmp 1)), 3, none⟩,
      ⟨some 34, (.indexAddr 22 (.tmp 32) (.tmp 33)), 0, none⟩,
      ⟨some 35, (.load 23 (.tmp 34)), 23, none⟩,
      ⟨some 36, (.move (.tmp 0)), 22, none⟩,
      ⟨some 37, (.move (.tmp 8)), 3, none⟩,
      ⟨some 38, (.indexAddr 22 (.tmp 36) (.tmp 37)), 0, none⟩,
      ⟨some 39, (.load 23 (.tmp 38)), 23, none⟩,
      ⟨some 40, (.call ⟨(.builtin .append), #[(.tmp 35), (.tmp 39)], #[23, 23]⟩), 23, none⟩,
      ⟨some 41, (.indexAddr 22 (.tmp 30) (.tmp 31)), 0, none⟩,
      ⟨none, (.store 23 (.tmp 41) (.tmp 40)), 0, none⟩] [(0, 1), (0, 2), (1, 2), (0, 3), (1, 3), (2, 3), (0, 4), (1, 4), (0, 5), (1, 5), (0, 6), (1, 6), (2, 6), (3, 6), (4, 6), (5, 6), (0, 7), (1, 7), (2, 7), (3, 7), (4, 7), (5, 7), (6, 7), (0, 8), (1, 8), (2, 8), (3, 8), (4, 8), (5, 8), (0, 9), (1, 9), (2, 9), (3, 9), (4, 9), (5, 9), (0, 10), (1, 10)])
    (.reg [] [⟨some 42, (.move (.tmp 7)), 22, none⟩,
      ⟨some 43, (.buildSlice 23 0 #[]), 23, none⟩,
      ⟨some 44, (.move (.tmp 0)), 22, none⟩,
      ⟨some 45, (.move (.tmp 8)), 3, none⟩,
      ⟨some 46, (.indexAddr 22 (.tmp 44) (.tmp 45)), 0, none⟩,
      ⟨some 47, (.load 23 (.tmp 46)), 23, none⟩,
      ⟨some 48, (.call ⟨(.builtin .append), #[(.tmp 43), (.tmp 47)], #[23, 23]⟩), 23, none⟩,
      ⟨some 49, (.buildSlice 22 1 #[(0, (.tmp 48))]), 22, none⟩,
      ⟨some 50, (.call ⟨(.builtin .append), #[(.tmp 42), (.tmp 49)], #[22, 22]⟩), 22, none⟩,
      ⟨some 7, (.assign (.tmp 50)), 22, none⟩]))))
    (.reg [] [⟨some 24, (.move (.tmp 8)), 3, none⟩,
      ⟨some 25, (.binOp .add 3 (.tmp 24) (.const (.int .i64 1)) 3), 3, none⟩,
      ⟨some 8, (.assign (.tmp 25)), 3, none⟩]))))))
    (.seq (.reg [] [⟨some 51, (.move (.tmp 7)), 22, none⟩,
      ⟨some 4, (.assign (.tmp 51)), 22, none⟩,
      ⟨some 5, (.assign (.const (.int .i64 0))), 28, none⟩])
    .ret))))))
theorem C32 {args : List AV} {r : AV} (hn : args.length ≤ 52) (h : vc Tryz.prog T [] A32 (Fin T [(.tmp 4), (.tmp 5)] r) ⟨envOf 0 args, []⟩) : CallP Tryz.prog 32 args r :=
  callP_of tok mixed Tryz.func32 (by kernel_rfl) (by kernel_rfl) (by kernel_rfl : Tryz.f32.ntmps = 52) (by kernel_rfl : Tryz.f32.body.bind (strip 52 (fun _ => [])) = some A32) hn h

end Go.Proofs.YtgfgkfkplidncaaGreat
end

section
/- Contracts: which tables, families and orders are right. -/
namespace Go.Proofs.YtgfgkfkplidncaaGreat
open Go.Abs Go
set_option maxRecDepth 20000
set_option maxHeartbeats 2000000
attribute [local irreducible] PreK CondK CallK CallG CallX LoopK
attribute [simp] T_27 T_61 T_62 T_66 T_67 T_94 T_95
attribute [local simp] avsEq avEq akind teq vkind vEq

@[simp] def tabV (t : Tab) : AV := .seq 1 (t.map ints) false
/-- Lists that are no longer than a statement takes. -/
structure Sm (t : Tab) : Prop where
  num : t.length ≤ 50
  row : ∀ r ∈ t, r.length ≤ 100
theorem Sm.el {t : Tab} (h : Sm t) (i : Nat) : (el t i).length ≤ 100 := by
  by_cases hi : i < t.length
  · exact h.row _ (el_mem_of t i hi)
  · unfold Go.Abs.el
    rw [List.getD_eq_getElem?_getD, List.getElem?_eq_none (by omega)]; simp [default]
theorem sbig {n : Nat} (h : n ≤ 1000) : n ≤ big := Nat.le_trans h (by decide)
theorem swithin_c (n lo hi : Int) : CallP Tryz.prog 73 [iv n, iv lo, iv hi] (bv (decide (lo ≤ n) && decide (n ≤ hi))) := by
  refine C73 (by simp) ?_
  simp [A73]
theorem notS_c (n : Int) : CallP Tryz.prog 82 [iv n] (bv (!okS n)) := by
  refine C82 (by simp) ?_
  simp [A82]
  refine CallX.pure (by simpa using swithin_c n 0 5) (by simp) (by simp) ?_
  simp [okS]
theorem isSet_c (l : List Int) (n : Int) (hl : l.length ≤ 1000) (hn : -1000 ≤ n ∧ n ≤ 1000) : CallP Tryz.prog 43 [ints l, iv n] (bv (setG (n - 1) none l)) := by
  refine C43 (by simp) ?_
  generalize hR : setG (n - 1) none l = R
  simp [A43]
  refine LoopK.by (fun i : Nat => ⟨[(9, iv i), (8, iv l.length), (7, ints l), (0, ints l), (1, iv n)], []⟩) (fun i => l.length - i) (fun i => i ≤ l.length ∧ setG (n - 1) (prevOf l i) (l.drop i) = R) 0 (by simpa [prevOf] using hR) (by simp) ?_
  intro i Q' ⟨hi, hc⟩ hq he hr
  try simp 
  refine CondK.intro (fun h => ?_) (fun h => ?_)
  · simp at h
    rw [drop_cons l i h, setG] at hc
    have e1 : ((i : Int) - 1).toNat = i - 1 := by omega
    have h1 : i - 1 < l.length := by omega
    have hprev : lessO (prevOf l i) (el l i) = (!(decide (0 < i) && decide (el l i ≤ el l (i - 1)))) := by
      unfold prevOf
      by_cases h0 : i = 0
      · simp [h0, lessO]
      · simp [h0, lessO, show 0 < i by omega]
        by_cases h6 : el l (i - 1) < el l i
        · simp [h6]
        · simp [h6]; omega
    rw [hprev] at hc
    try simp [e1, h1, h]
    repeat' (first
      | (refine CallX.pure (swithin_c (el l i) 0 (n - 1)) (by simp) (by simp) ?_; try simp [e1, h1, h])
      | (refine CallK.intro (swithin_c (el l i) 0 (n - 1)) (by simp) (by simp) ?_; try simp [e1, h1, h])
      | (refine CallG.intro (fun _ => swithin_c (el l i) 0 (n - 1)) (by simp) (by simp) ?_; try simp [e1, h1, h])
      | ((with_reducible refine PreK.intro ?_ ?_); (next => (first | omega | (intros; first | omega | (refine ⟨by omega, ?_⟩; repeat (first | assumption | constructor)) | assumption))); intro _; try simp [e1, h1, h])
      | fail)
    generalize decide (0 ≤ el l i) = b1 at *
    generalize decide (el l i ≤ n - 1) = b2 at *
    generalize decide (0 < i) = b3 at *
    generalize decide (el l i ≤ el l (i - 1)) = b4 at *
    refine CondK.intro (fun h4 => ?_) (fun h4 => ?_)
    · have : ((b1 && b2) && !(b3 && b4)) = false := by
        revert h4; cases b1 <;> cases b2 <;> cases b3 <;> cases b4 <;> simp
      rw [this] at hc
      simp only [Bool.false_and] at hc
      try simp 
      apply hr
      simp [hc]
    · have : ((b1 && b2) && !(b3 && b4)) = true := by
        revert h4; cases b1 <;> cases b2 <;> cases b3 <;> cases b4 <;> simp
      rw [this] at hc
      simp only [Bool.true_and] at hc
      repeat (refine PreK.intro (by first | omega | (intros; first | omega | (refine ⟨by omega, ?_⟩; simp_all; done) | (simp_all; done) | (simp_all; omega))) fun _ => ?_; (try simp ))
      exact hq (i + 1) _ ⟨by omega, by simpa [prevOf] using hc⟩ (by omega) (by simp)
  · simp at h
    rw [List.drop_eq_nil_of_le (by omega)] at hc
    simp [setG] at hc
    try simp 
    apply he
    simp [hc]
theorem ValidateFamily_c (n : Int) (f : List (List Int)) (h : Sm f) : CallP Tryz.prog 54 [iv n, tabV f] (iv (famErr n f)) := by
  refine C54 (by simp) ?_
  have hn := h.num
  generalize hR : famErr n f = R
  unfold famErr at hR
  simp [A54]
  have hw := swithin_c n 1 6
  generalize hb : (decide (1 ≤ n) && decide (n ≤ 6)) = b at hR hw
  cases b with
  | false =>
    try simp 
    repeat' (first
      | (refine CallX.pure (hw) (by simp) (by simp) ?_; try simp )
      | (refine CallK.intro (hw) (by simp) (by simp) ?_; try simp )
      | (refine CallG.intro (fun _ => hw) (by simp) (by simp) ?_; try simp )
      | ((with_reducible refine PreK.intro ?_ ?_); (next => (first | omega | (intros; first | omega | (refine ⟨by omega, ?_⟩; repeat (first | assumption | constructor)) | assumption))); intro _; try simp )
      | fail)
    refine CondK.tt ?_
    try simp 
    simpa using hR
  | true =>
    simp only [Bool.and_eq_true, decide_eq_true_eq] at hb
    simp only [Bool.not_true, Bool.false_eq_true, if_false] at hR
    try simp 
    repeat' (first
      | (refine CallX.pure (hw) (by simp) (by simp) ?_; try simp )
      | (refine CallK.intro (hw) (by simp) (by simp) ?_; try simp )
      | (refine CallG.intro (fun _ => hw) (by simp) (by simp) ?_; try simp )
      | ((with_reducible refine PreK.intro ?_ ?_); (next => (first | omega | (intros; first | omega | (refine ⟨by omega, ?_⟩; repeat (first | assumption | constructor)) | assumption))); intro _; try simp )
      | fail)
    refine CondK.ff ?_
    try simp 
    try simp 
    refine CondK.intro (fun h1 => ?_) (fun h1 => ?_)
    · simp at h1
      rw [if_pos (by omega)] at hR
      try simp 
      exact hR
    · simp at h1
      rw [if_neg (by omega)] at hR
      try simp 
      refine LoopK.by (fun i : Nat => ⟨[(15, iv i), (14, iv f.length), (13, tabV f), (0, iv n)], []⟩) (fun i => f.length - i) (fun i => i ≤ f.length ∧ (if (f.drop i).any (famBad n) = true then 1 else 0) = R) 0 (by simpa using hR) (by simp) ?_
      intro i Q' ⟨hi, hc⟩ hq he hr
      try simp 
      refine CondK.intro (fun h2 => ?_) (fun h2 => ?_)
      · simp at h2
        have hel := h.el i
        rw [drop_cons f i h2, List.any_cons] at hc
        have hs := isSet_c (el f i) n (by omega) (by omega)
        unfold famBad at hc
        generalize setG (n - 1) none (el f i) = b at hs hc
        by_cases h3 : el f i = []
        · simp only [h3, decide_true, Bool.true_or, if_true] at hc
          try simp [h2, h3]
          repeat (refine PreK.intro (by first | omega | (intros; first | omega | (refine ⟨by omega, ?_⟩; simp_all; done) | (simp_all; done) | (simp_all; omega))) fun _ => ?_; (try simp [h2, h3]))
          refine CallG.intro (r := bv true) (fun hh => by cases hh) (by simp) (by simp) ?_
          try simp 
          repeat (refine PreK.intro (by first | omega | (intros; first | omega | (refine ⟨by omega, ?_⟩; simp_all; done) | (simp_all; done) | (simp_all; omega))) fun _ => ?_; (try simp ))
          refine CondK.tt ?_
          try simp 
          apply hr
          simp [hc]
        · have h3' : ¬ (el f i).length = 0 := fun e => h3 (List.eq_nil_of_length_eq_zero e)
          simp only [h3, decide_false, Bool.false_or] at hc
          try simp [h2, h3, h3']
          repeat' (first
            | (refine CallX.pure (hs) (by simp) (by simp) ?_; try simp [h2, h3, h3'])
            | (refine CallK.intro (hs) (by simp) (by simp) ?_; try simp [h2, h3, h3'])
            | (refine CallG.intro (fun _ => hs) (by simp) (by simp) ?_; try simp [h2, h3, h3'])
            | ((with_reducible refine PreK.intro ?_ ?_); (next => (first | omega | (intros; first | omega | (refine ⟨by omega, ?_⟩; repeat (first | assumption | constructor)) | assumption))); intro _; try simp [h2, h3, h3'])
            | fail)
          refine CondK.intro (fun h4 => ?_) (fun h4 => ?_)
          · rw [h4] at hc
            simp only [Bool.true_or, if_true] at hc
            try simp 
            apply hr
            simp [hc]
          · rw [h4] at hc
            simp only [Bool.false_or] at hc
            repeat (refine PreK.intro (by first | omega | (intros; first | omega | (refine ⟨by omega, ?_⟩; simp_all; done) | (simp_all; done) | (simp_all; omega))) fun _ => ?_; (try simp ))
            exact hq (i + 1) _ ⟨by omega, hc⟩ (by omega) (by simp)
      · simp at h2
        rw [List.drop_eq_nil_of_le (by omega)] at hc
        simp only [List.any_nil, Bool.false_eq_true, if_false] at hc
        try simp 
        apply he
        try simp 
        exact hc
end Go.Proofs.YtgfgkfkplidncaaGreat
end

section
/- Plain: classes of tables of which rows are joined, made two, renamed. -/
namespace Go.Proofs.YtgfgkfkplidncaaGreat
open Go.Abs Go

theorem cls_sub {t a : Tab} (ht : TabOK t) (ha : TabOK a) (h : ∀ r, r < a.length → ∃ q, q < t.length ∧ preT a r = preT t q) : ∀ x ∈ classesM a, x ∈ classesM t := by
  intro x hx
  obtain ⟨s, r, h1, h2, rfl⟩ := (mem_classes ha).1 hx
  obtain ⟨q, h3, h4⟩ := h r h1
  refine (mem_classes ht).2 ⟨s, q, h3, by rw [← h4]; exact h2, ?_⟩
  unfold standM segM
  rw [h4]
theorem pre_join (A B : Tab) (x y : List Int) {r : Nat} (h : r < (A ++ (x ++ y) :: B).length) : ∃ q, q < (A ++ x :: y :: B).length ∧ preT (A ++ (x ++ y) :: B) r = preT (A ++ x :: y :: B) q := by
  simp only [List.length_append, List.length_cons] at h ⊢
  unfold preT
  by_cases h1 : r < A.length
  · refine ⟨r, by omega, ?_⟩
    rw [List.take_append_of_le_length (by omega), List.take_append_of_le_length (by omega)]
  · refine ⟨r + 1, by omega, ?_⟩
    rw [List.take_append, List.take_append, List.take_of_length_le (show A.length ≤ r + 1 by omega), List.take_of_length_le (show A.length ≤ r + 1 + 1 by omega)]
    rw [show r + 1 - A.length = (r - A.length) + 1 by omega, show r + 1 + 1 - A.length = (r - A.length) + 1 + 1 by omega]
    simp
def joinM (t : Tab) (k : Nat) : Tab := t.take k ++ (el t k ++ el t (k + 1)) :: t.drop (k + 2)
theorem join_form {t : Tab} {k : Nat} (h : k + 1 < t.length) : t = t.take k ++ el t k :: el t (k + 1) :: t.drop (k + 2) := by
  conv => lhs; rw [← List.take_append_drop k t, drop_cons t k (by omega), drop_cons t (k + 1) h]
theorem join_ok {t : Tab} (h : TabOK t) {k : Nat} (hk : k + 1 < t.length) : TabOK (joinM t k) := by
  have e := join_form hk
  have hf : (joinM t k).flatten = t.flatten := by
    conv => rhs; rw [e]
    simp [joinM]
  have h2 := h.num
  refine ⟨by simp [joinM]; omega, by simp [joinM]; omega, fun r hr => ?_, by rw [hf]; exact h.val, by rw [hf]; exact h.nd⟩
  unfold joinM at hr
  rcases List.mem_append.1 hr with hr | hr
  · exact h.row r (List.mem_of_mem_take hr)
  · rcases List.mem_cons.1 hr with rfl | hr
    · have := h.row _ (el_mem_of t k (by omega))
      simp [this]
    · exact h.row r (List.mem_of_mem_drop hr)
theorem join_sub {t : Tab} (h : TabOK t) {k : Nat} (hk : k + 1 < t.length) : ∀ x ∈ classesM (joinM t k), x ∈ classesM t := by
  refine cls_sub h (join_ok h hk) fun r hr => ?_
  have := pre_join (t.take k) (t.drop (k + 2)) (el t k) (el t (k + 1)) hr
  rw [← join_form hk] at this
  exact this
/-! ### other sounds -/
def renF (to : List Int) (s : Int) : Int := el to s.toNat
theorem class_up {t : Tab} (ht : TabOK t) {x : List Int} (hx : x ∈ classesM t) : x.Pairwise (· < ·) ∧ (∀ y ∈ x, 0 ≤ y ∧ y ≤ 5) ∧ x.length ≤ 6 := by
  obtain ⟨s, r, h1, h2, rfl⟩ := (mem_classes ht).1 hx
  have h3 : ∀ y ∈ standM t s r, 0 ≤ y ∧ y ≤ 5 := fun y hy => seg_val ht (mem_sortI.1 hy)
  have h4 := sortI_lt (seg_nd ht s r)
  exact ⟨h4, h3, six_len (pairwise_lt_nodup h4) h3⟩
end Go.Proofs.YtgfgkfkplidncaaGreat
end

section
/- Plain: names sorted. -/
namespace Go.Proofs.YtgfgkfkplidncaaGreat
open Go.Abs Go

def leNB (a b : Int × Int) : Bool := decide (a.1 < b.1) || (decide (a.1 = b.1) && decide (a.2 ≤ b.2))
def sortN (l : List (Int × Int)) : List (Int × Int) := l.mergeSort leNB
theorem sortN_perm (l : List (Int × Int)) : (sortN l).Perm l := List.mergeSort_perm _ _
theorem sortN_sorted (l : List (Int × Int)) : (sortN l).Pairwise fun a b => leNB a b = true := by
  refine List.pairwise_mergeSort (le := leNB) (fun a b c h1 h2 => ?_) (fun a b => ?_) l
  · simp only [leNB, Bool.or_eq_true, Bool.and_eq_true, decide_eq_true_eq] at *; omega
  · simp only [leNB, Bool.or_eq_true, Bool.and_eq_true, decide_eq_true_eq] at *; omega
theorem leNB_anti {a b : Int × Int} (h1 : leNB a b = true) (h2 : leNB b a = true) : a = b := by
  simp only [leNB, Bool.or_eq_true, Bool.and_eq_true, decide_eq_true_eq] at *
  exact Prod.ext (by omega) (by omega)
theorem sortN_eq {l m : List (Int × Int)} (hp : l.Perm m) (hs : m.Pairwise fun a b => leNB a b = true) : sortN l = m :=
  List.Perm.eq_of_pairwise (le := fun a b : Int × Int => leNB a b = true) (fun a b _ _ h1 h2 => leNB_anti h1 h2) (sortN_sorted l) hs ((sortN_perm l).trans hp)
theorem sort_names {t : Tab} (h : TabOK t) : sortN (allM t) = namesM t :=
  sortN_eq (names_perm h) ((namesM_sorted t).imp fun {a b} h => by
    unfold ltN at h
    simp only [leNB, Bool.or_eq_true, Bool.and_eq_true, decide_eq_true_eq]
    omega)
theorem flat_le (t : Tab) (h : ∀ r ∈ t, r.length ≤ 100) : t.flatten.length ≤ t.length * 100 := by
  induction t with
  | nil => simp
  | cons r t ih =>
    have h1 := h r (by simp)
    have h2 := ih fun x hx => h x (by simp [hx])
    simp only [List.flatten_cons, List.length_append, List.length_cons, Nat.succ_mul]
    omega
theorem names_num {t : Tab} (h : TabOK t) : (namesM t).length ≤ 36 := by
  have h1 := flat_len (namesS t) 6 six fun s _ => by
    unfold namesS rangeP
    have := h.num
    split
    · simp; omega
    · simp
  simpa [namesM, six] using h1
theorem any_contains (l : List Int) (n : Int) : (l.any fun x => decide (n = x)) = l.contains n := by
  rw [Bool.eq_iff_iff, List.any_eq_true, List.contains_iff_mem]
  constructor
  · rintro ⟨x, hx, e⟩
    simp only [decide_eq_true_eq] at e
    rw [e]; exact hx
  · intro h
    exact ⟨n, h, by simp⟩
theorem el_ids {n i : Nat} (h : i < n) : el (idsN n) i = (i : Int) := by
  simp [idsN, el, List.getD_eq_getElem?_getD, h]
/-- A list without doubles loses nothing where equal neighbours are left out. -/
theorem nodup_comp (l : List Int) : (compI (sortI l)).length = l.length ↔ l.Nodup := by
  rw [diffN_comp]
  constructor
  · intro h
    have h1 : (freshL [] l).Perm l := perm_of_sub nodup_freshL (fun x hx => (mem_freshL.1 hx).1) (by unfold diffN at h; omega)
    exact h1.nodup_iff.1 nodup_freshL
  · intro h
    exact diffN_of h fun x => Iff.rfl
theorem take_nodup {l : List Int} {i : Nat} (h : (l.take i).Nodup) (hi : i < l.length) : (l.take (i + 1)).Nodup ↔ el l i ∉ l.take i := by
  rw [take_succ l i hi, List.nodup_append]
  constructor
  · rintro ⟨_, _, h3⟩ hm
    exact h3 _ hm _ (by simp) rfl
  · intro hn
    exact ⟨h, by simp, fun a ha b hb e => by simp only [List.mem_singleton] at hb; subst hb; subst e; exact hn ha⟩
end Go.Proofs.YtgfgkfkplidncaaGreat
end

section
/- The library's sort of words, over a lent box. -/
namespace Go.Proofs.YtgfgkfkplidncaaGreat
open Go.Abs Go
/-! ### the library's sort -/
section
open Go.Sort Go.Shelf
variable {P : Program} {ρ : Ren}

/-- A word and the value that reads so. -/
abbrev Cell (w : World) (Y : Nat → Prop) := { p : List Int × Value // Rep w Y Mu.none (ints p.1) p.2 }
instance {w : World} {Y : Nat → Prop} : Inhabited (Cell w Y) := ⟨⟨([], .slice none 0 0), .nil⟩⟩
def cellV {w : World} {Y : Nat → Prop} (x : Cell w Y) : Value := x.1.2
def cellC {w : World} {Y : Nat → Prop} (x y : Cell w Y) : Int := cmpW x.1.1 y.1.1
theorem cellV_one {w : World} {Y : Nat → Prop} : OneCell (cellV (w := w) (Y := Y)) := by
  intro ⟨⟨l, v⟩, h⟩
  unfold cellV
  simp only [ints] at h ⊢
  generalize l.map iv = m at h
  cases h <;> rfl
theorem cell_big {w : World} {Y : Nat → Prop} {l : List Int} {v : Value} (h : Rep w Y Mu.none (ints l) v) : l.length ≤ big := by
  simp only [ints] at h
  have e : l.length = (l.map iv).length := by simp
  rw [e]
  generalize l.map iv = m at h
  cases h with
  | nil => simp
  | seq hY hb hc hf hbig hfit hw h1 h => exact hbig
theorem cellC_lt {w : World} {Y : Nat → Prop} (x y : Cell w Y) : ltOf cellC x y = bef x.1.1 y.1.1 := by
  unfold ltOf cellC cmpW
  by_cases h : x.1.1 = y.1.1
  · rw [if_pos h, h, bef_irr]; simp
  · rw [if_neg h]
    cases bef x.1.1 y.1.1 <;> simp
theorem cell_swo {w : World} {Y : Nat → Prop} : SWO (ltOf (cellC (w := w) (Y := Y))) := by
  refine ⟨fun x => ?_, fun x y z h1 h2 => ?_, fun x y z h1 h2 => ?_⟩
  · rw [cellC_lt, bef_irr]
  · rw [cellC_lt] at h1 h2 ⊢
    exact bef_trans h1 h2
  · rw [cellC_lt] at h1 h2 ⊢
    exact bef_no_trans h2 h1
theorem grows_eq {w w' : World} (h : Grows w w') : w' = Go.Sort.grow (w.drewN (w'.drawn - w.drawn)) (w'.heap.extract w.heap.size w'.heap.size) := by
  obtain ⟨⟨h1, h2⟩, h3, h4, h5, h6⟩ := h
  cases w
  cases w'
  unfold Go.Sort.grow World.drewN
  simp only at h1 h2 h3 h4 h5 h6 ⊢
  simp only [World.mk.injEq]
  refine ⟨?_, h3, by omega, h1, h4⟩
  apply Array.ext_getElem?
  intro k
  rw [Array.getElem?_append]
  split
  · rename_i hk; exact h6 k hk
  · rename_i hk
    rw [Array.getElem?_extract]
    split
    · congr 1; omega
    · rename_i h7
      rw [Array.getElem?_eq_none (by omega)]
theorem sortWorld_other {α : Type} [Inhabited α] {enc : α → Value} {w : World} {blk off m : Nat} {dk : Array α} {os : Array Obj} {b : Nat} (hb : b < w.heap.size) (hne : b ≠ blk) : (Go.Proofs.sortWorld enc w blk off m dk os).heap[b]? = w.heap[b]? := by
  unfold Go.Proofs.sortWorld Go.Sort.grow Go.Sort.putRow Go.Sort.mapBlock Go.Sort.ahead
  simp only
  rw [Array.getElem?_append_left (by simpa using hb), Array.getElem?_modify, if_neg (Ne.symm hne)]
theorem sortWorld_at {α : Type} [Inhabited α] {enc : α → Value} {w : World} {blk off m : Nat} {dk : Array α} {os : Array Obj} {c : Array Value} {e : TypeId} {fr : Nat × Nat} (hb : w.heap[blk]? = some (.cells c e fr)) : (Go.Proofs.sortWorld enc w blk off m dk os).heap[blk]? = some (.cells (Go.Sort.putCells enc off dk c) e fr) := by
  have hlt := lt_of_heap hb
  unfold Go.Proofs.sortWorld Go.Sort.grow Go.Sort.putRow Go.Sort.mapBlock Go.Sort.ahead
  simp only
  rw [Array.getElem?_append_left (by simpa using hlt), Array.getElem?_modify, if_pos rfl, hb]
  rfl
theorem sortWorld_size {α : Type} [Inhabited α] {enc : α → Value} {w : World} {blk off m : Nat} {dk : Array α} {os : Array Obj} : w.heap.size ≤ (Go.Proofs.sortWorld enc w blk off m dk os).heap.size := by
  unfold Go.Proofs.sortWorld Go.Sort.grow Go.Sort.putRow Go.Sort.mapBlock Go.Sort.ahead
  simp
theorem putCells_getD {α : Type} [Inhabited α] {enc : α → Value} {off : Nat} {d : Array α} {c : Array Value} {k : Nat} (hk : k < c.size) : (Go.Sort.putCells enc off d c).getD k undef = if off ≤ k ∧ k < off + d.size then enc d[k - off]! else c.getD k undef := by
  unfold Go.Sort.putCells
  simp [Array.getD, hk]
/-- The library's sort of words, over a lent row. -/
theorem callL_sort (L : SlLaysF.n6 P ρ) {g : FuncId} (hg : ∀ a b : List Int, a.length ≤ big → b.length ≤ big → CallP P g [ints a, ints b] (iv (cmpW a b))) (d : List (List Int)) :
    CallL P (ρ.f 6) [] 1 (d.map ints) [.fn g [] []] (.val (.tup [])) ((sortW d).map ints) := by
  have hsl : (sortW d).length = d.length := (sortW_perm d).length_eq
  refine ⟨?_, fun w X l vs hv hsz hX hXl hh hlen hargs => ?_⟩
  · obtain ⟨nm, hn, hf⟩ := L.f6
    exact ⟨_, hf, by simpa using hn, by simp [SlBodyF.n6]⟩
  obtain ⟨v0, v1, rfl⟩ : ∃ v0 v1, vs = #[v0, v1] := by
    cases vs with
    | mk l =>
      match l, hlen with
      | [a, b], _ => exact ⟨a, b, rfl⟩
  have h0 : Rep w (Yof X (mu1 l)) (mu1 l) (.sl lid 0 0 (d.map ints).length) v0 := hargs 0 (by simp)
  have h1 : Rep w (Yof X (mu1 l)) (mu1 l) (.fn g [] []) v1 := hargs 1 (by simp)
  generalize hn : (d.map ints).length = n at h0
  simp only [List.length_map] at hn
  cases h1 with
  | @fn _ _ _ _ fs cs hs ht _ _ =>
  obtain rfl : fs = #[] := Array.eq_empty_of_size_eq_zero hs
  obtain rfl : cs = #[] := Array.eq_empty_of_size_eq_zero ht
  cases h0 with
  | slOld hm hv' =>
    simp only [mu1, if_true, Option.some.injEq] at hm
    subst hm
    omega
  | slNil hm hv' =>
    obtain rfl : d = [] := List.eq_nil_of_length_eq_zero hn
    refine (AnyF.slices_SortFunc_none (P := P) (ρ := ρ) { L with } _ 0 _ w).mono fun e w' ⟨he, hw⟩ => ?_
    subst hw
    exact ⟨_, he, Ext.refl _ _, hh, .tup rfl fun i hi => absurd hi (by simp)⟩
  | @sl _ _ _ _ _ cap loc g0 n0 hm hv' hb hc hfit hz =>
    simp only [mu1, if_true, Option.some.injEq] at hm
    subst hm
    subst hn
    obtain ⟨hbig, hh⟩ := hh
    rw [hb] at hh
    obtain ⟨c, el, hheap, hcs, hlen', hone, hrep⟩ := hh.1 (by simp)
    rw [hsz] at hfit
    simp only [Nat.zero_mul, Nat.add_zero, Nat.zero_add, Nat.mul_one, List.length_map, hsz] at hfit hlen' ⊢
    let Y : Nat → Prop := Yof X (mu1 l)
    have hY0 : Y g0 := .inr (blks_mu1.2 ⟨n0, hb⟩)
    have hYlt : ∀ b, Y b → b < w.heap.size := by
      rintro b (hx | hx)
      · exact hX b hx
      · obtain ⟨n, hn⟩ := blks_mu1.1 hx
        rw [hb] at hn
        simp only [Option.some.injEq, Prod.mk.injEq] at hn
        rw [← hn.1]
        exact lt_of_heap hheap
    have hcell : ∀ i : Fin d.length, Rep w Y Mu.none (ints d[i]) (c.getD (l.base + i) undef) := by
      intro i
      have := (hrep i (by simp)).2
      simp only [List.getD_eq_getElem?_getD, List.getElem?_map, List.getElem?_eq_getElem i.2, Option.map_some, Option.getD_some, Nat.mul_one, if_false, Bool.false_eq_true] at this
      exact this
    let arr : Array (Cell w Y) := Array.ofFn (n := d.length) fun i => ⟨(d[i], c.getD (l.base + i) undef), hcell i⟩
    have harr : arr.size = d.length := Array.size_ofFn
    have hget : ∀ i (hi : i < d.length), arr[i]! = ⟨(d[i], c.getD (l.base + i) undef), hcell ⟨i, hi⟩⟩ := by
      intro i hi
      rw [getElem!_pos arr i (by rw [harr]; exact hi)]
      exact Array.getElem_ofFn ..
    have hwords : arr.toList.map (fun x => x.1.1) = d := by
      apply List.ext_getElem
      · rw [List.length_map, Array.length_toList, harr]
      · intro i h1 h2
        rw [List.getElem_map, Array.getElem_toList, ← getElem!_pos arr i (by rw [harr]; exact h2), hget i h2]
    have hmono : ∀ {m : Nat} {dk : Array (Cell w Y)} {os : Array Obj} {a : AV} {v : Value}, Rep w Y Mu.none a v → Rep (Go.Proofs.sortWorld cellV w g0 l.base m dk os) Y Mu.none a v := by
      intro m dk os a v h
      refine h.mono (fun b hb' hlt => ⟨hb', sortWorld_other hlt ?_⟩) (Mu.later.refl _)
      rintro rfl
      exact hb' hY0
    have hkey := Any.slices_SortFunc L (cellV (w := w) (Y := Y)) cellV_one cellC cell_swo g #[] g0 l.base cap arr w ?_ ?_ ?_ (lt_of_heap hheap) ?_
    · rw [harr] at hkey
      refine hkey.mono fun e w' ⟨he, d', n, os, hp, hs, hw⟩ => ?_
      obtain ⟨hp1, _, hp2⟩ := hp
      rw [harr] at hp1
      have hd' : d'.toList.map (fun x => x.1.1) = sortW d := by
        refine order_same ?_ ?_ (sortW_order d)
        · have e1 : d'.extract 0 d.length = d' := by rw [← hp1]; exact Array.extract_size
          have e2 : arr.extract 0 d.length = arr := by rw [← harr]; exact Array.extract_size
          rw [e1, e2] at hp2
          exact ((hp2.map (fun x => x.1.1)).trans (by rw [hwords])).trans (sortW_perm d).symm
        · unfold inOrder
          rw [List.pairwise_map, List.pairwise_iff_getElem]
          intro i j hi hj hij
          have := hs i j (Nat.zero_le _) hij (by simpa [hp1] using hj)
          rw [cellC_lt, getElem!_pos d' j (by simpa using hj), getElem!_pos d' i (by simpa using hi)] at this
          simpa using this
      subst hw
      refine ⟨_, he, ⟨⟨rfl, ?_⟩, rfl, rfl, sortWorld_size, fun b hlt hno => sortWorld_other hlt ?_⟩, ⟨by simpa [hsl] using hbig, ?_⟩, .tup rfl fun i hi => absurd hi (by simp)⟩
      · exact Nat.le_add_right _ _
      · rintro rfl
        exact hno (blks_mu1.2 ⟨n0, hb⟩)
      · rw [hb]
        refine ⟨fun _ => ⟨_, el, sortWorld_at hheap, by simpa [Go.Sort.putCells] using hcs, by simpa [hsl] using hlen', fun j hj => ?_, fun i hi => ?_⟩, fun h => by cases h⟩
        · rw [putCells_getD (by omega)]
          split
          · exact cellV_one _
          · exact hone j hj
        · have hi' : i < d.length := by simpa [hsl] using hi
          have hi2 : i < d'.toList.length := by simpa [hp1] using hi'
          have e3 : (List.map ints (sortW d)).getD i .junk = ints (d'[i]!).1.1 := by
            rw [← hd', List.map_map, List.getD_eq_getElem?_getD, List.getElem?_map, List.getElem?_eq_getElem hi2, getElem!_pos d' i (by simpa using hi2)]
            simp
          rw [e3]
          have hi3 : i < d'.size := by rw [hp1]; exact hi'
          have hlt : l.base + i * 1 < c.size := by rw [hcs]; omega
          refine ⟨rfl, ?_⟩
          show Rep _ _ Mu.none _ ((Go.Sort.putCells cellV l.base d' c).getD (l.base + i * 1) undef)
          rw [putCells_getD hlt, if_pos (by omega), show l.base + i * 1 - l.base = i by omega]
          exact hmono (d'[i]!).2
    · intro args w1
      obtain ⟨fn, hf, hname, hbody⟩ := (hg [] [] (by simp) (by simp)).1
      cases hb2 : fn.body with
      | none => exact absurd hb2 hbody
      | some code => exact enters_of hf (by simpa using hname) hb2 args w1
    · intro m os dk hdk x y
      refine ((hg x.1.1 y.1.1 (cell_big x.2) (cell_big y.2)).2 _ Y _ (fun b hb' => Nat.lt_of_lt_of_le (hYlt b hb') sortWorld_size) rfl fun i hi => ?_).mono ?_
      · match i, hi with
        | 0, _ => exact hmono x.2
        | 1, _ => exact hmono y.2
      · rintro e w' ⟨v, he, hgw, hr⟩
        obtain ⟨rfl, _⟩ := hr.one
        exact ⟨he, _, _, grows_eq hgw⟩
    · intro j hj
      rw [harr] at hj
      rw [hget j hj]
      have hlt : l.base + j < c.size := by omega
      refine ⟨?_, ?_⟩
      · unfold World.cell?
        simp only [hheap]
        simp [cellV, Array.getD, hlt]
      · unfold World.frozen?
        simp [hheap]
    · rw [harr]
      simp only [List.length_map, big] at hbig
      omega
end
end Go.Proofs.YtgfgkfkplidncaaGreat
end

section
/- The library's sort of words at this program: where its functions and types stand (written by the kit's tool lay-plain), and its contract. -/
namespace Go.Proofs.YtgfgkfkplidncaaGreat
open Go.Abs Go Go.Shelf
def lsort_ren : Go.Shelf.Ren := ⟨fun | 6 => 92 | 15 => 105 | 14 => 110 | 28 => 121 | 29 => 122 | 20 => 134 | 21 => 135 | 22 => 136 | 23 => 137 | 24 => 138 | 25 => 139 | 26 => 140 | 27 => 141 | 46 => 151 | 47 => 144 | 48 => 145 | 49 => 152 | 50 => 153 | 57 => 156 | n => n, fun | 22 => 22 | 24 => 23 | 25 => 102 | 3 => 3 | 39 => 113 | 0 => 0 | 53 => 130 | 55 => 132 | 4 => 4 | 46 => 123 | 45 => 122 | 50 => 127 | 5 => 5 | 9 => 9 | 66 => 148 | 70 => 152 | 76 => 158 | 77 => 105 | n => n, fun | n => n⟩
theorem lsort : Go.Proofs.SlLaysF.n6 Tryz.prog lsort_ren := {
  mixed := by kernel_rfl
  f6 := ⟨Tryz.f92.name, by decide, Tryz.func92.trans (congrArg some (by kernel_rfl))⟩
  f14 := ⟨Tryz.f110.name, by decide, Tryz.func110.trans (congrArg some (by kernel_rfl))⟩
  f15 := Tryz.func105.trans (congrArg some (by kernel_rfl))
  f20 := ⟨Tryz.f134.name, by decide, Tryz.func134.trans (congrArg some (by kernel_rfl))⟩
  f21 := ⟨Tryz.f135.name, by decide, Tryz.func135.trans (congrArg some (by kernel_rfl))⟩
  f22 := ⟨Tryz.f136.name, by decide, Tryz.func136.trans (congrArg some (by kernel_rfl))⟩
  f23 := ⟨Tryz.f137.name, by decide, Tryz.func137.trans (congrArg some (by kernel_rfl))⟩
  f24 := ⟨Tryz.f138.name, by decide, Tryz.func138.trans (congrArg some (by kernel_rfl))⟩
  f25 := ⟨Tryz.f139.name, by decide, Tryz.func139.trans (congrArg some (by kernel_rfl))⟩
  f26 := ⟨Tryz.f140.name, by decide, Tryz.func140.trans (congrArg some (by kernel_rfl))⟩
  f27 := ⟨Tryz.f141.name, by decide, Tryz.func141.trans (congrArg some (by kernel_rfl))⟩
  f28 := Tryz.func121.trans (congrArg some (by kernel_rfl))
  f29 := Tryz.func122.trans (congrArg some (by kernel_rfl))
  f46 := ⟨Tryz.f151.name, by decide, Tryz.func151.trans (congrArg some (by kernel_rfl))⟩
  f47 := Tryz.func144.trans (congrArg some (by kernel_rfl))
  f48 := Tryz.func145.trans (congrArg some (by kernel_rfl))
  f49 := ⟨Tryz.f152.name, by decide, Tryz.func152.trans (congrArg some (by kernel_rfl))⟩
  f50 := ⟨Tryz.f153.name, by decide, Tryz.func153.trans (congrArg some (by kernel_rfl))⟩
  f57 := ⟨Tryz.f156.name, by decide, Tryz.func156.trans (congrArg some (by kernel_rfl))⟩
  t0 := Tryz.underlying0
  a0 := Tryz.isAgg0
  z0 := Tryz.sizeOf0
  v0 := Tryz.zeroValue0
  t3 := Tryz.underlying3
  a3 := Tryz.isAgg3
  z3 := Tryz.sizeOf3
  v3 := Tryz.zeroValue3
  t4 := Tryz.underlying4
  a4 := Tryz.isAgg4
  z4 := Tryz.sizeOf4
  v4 := Tryz.zeroValue4
  t5 := Tryz.underlying5
  a5 := Tryz.isAgg5
  z5 := Tryz.sizeOf5
  v5 := Tryz.zeroValue5
  t9 := Tryz.underlying9
  a9 := Tryz.isAgg9
  z9 := Tryz.sizeOf9
  v9 := Tryz.zeroValue9
  t22 := Tryz.underlying22
  a22 := Tryz.isAgg22
  z22 := Tryz.sizeOf22
  v22 := Tryz.zeroValue22
  a24 := Tryz.isAgg23
  z24 := Tryz.sizeOf23
  t25 := Tryz.underlying102
  a25 := Tryz.isAgg102
  z25 := Tryz.sizeOf102
  v25 := Tryz.zeroValue102
  t39 := Tryz.underlying113
  a39 := Tryz.isAgg113
  z39 := Tryz.sizeOf113
  v39 := Tryz.zeroValue113
  t45 := Tryz.underlying122
  a45 := Tryz.isAgg122
  z45 := Tryz.sizeOf122
  v45 := Tryz.zeroValue122
  t46 := Tryz.underlying123
  a46 := Tryz.isAgg123
  z46 := Tryz.sizeOf123
  v46 := Tryz.zeroValue123
  t50 := Tryz.underlying127
  a50 := Tryz.isAgg127
  z50 := Tryz.sizeOf127
  v50 := Tryz.zeroValue127
  t53 := Tryz.underlying130
  a53 := Tryz.isAgg130
  z53 := Tryz.sizeOf130
  v53 := Tryz.zeroValue130
  t55 := Tryz.underlying132
  a55 := Tryz.isAgg132
  z55 := Tryz.sizeOf132
  v55 := Tryz.zeroValue132
  t66 := Tryz.underlying148
  a66 := Tryz.isAgg148
  z66 := Tryz.sizeOf148
  v66 := Tryz.zeroValue148
  t70 := Tryz.underlying152
  a70 := Tryz.isAgg152
  z70 := Tryz.sizeOf152
  v70 := Tryz.zeroValue152
  t76 := Tryz.underlying158
  a76 := Tryz.isAgg158
  z76 := Tryz.sizeOf158
  v76 := Tryz.zeroValue158
  t77 := Tryz.underlying105
  a77 := Tryz.isAgg105
  z77 := Tryz.sizeOf105
  v77 := Tryz.zeroValue105 }
end Go.Proofs.YtgfgkfkplidncaaGreat
end

section
/- The library's sort of numbers, over a lent box. -/
namespace Go.Proofs.YtgfgkfkplidncaaGreat
open Go.Abs Go
section
open Go.Shelf
variable {P : Program} {ρ : Ren}
theorem callL_sortI (L : Lays.n189 P ρ) (d : List Int) : CallL P (ρ.f 189) [] 1 (d.map iv) [] (.val (.tup [])) ((sortI d).map iv) := by
  have hsl := sortI_len d
  refine ⟨?_, fun w X l vs hv hsz hX hXl hh hlen hargs => ?_⟩
  · exact ⟨_, L.f189, by simp [Body.n189], by simp [Body.n189]⟩
  obtain ⟨v0, rfl⟩ : ∃ v0, vs = #[v0] := by
    cases vs with
    | mk l =>
      match l, hlen with
      | [a], _ => exact ⟨a, rfl⟩
  have h0 : Rep w (Yof X (mu1 l)) (mu1 l) (.sl lid 0 0 (d.map iv).length) v0 := hargs 0 (by simp)
  generalize hn : (d.map iv).length = n at h0
  simp only [List.length_map] at hn
  cases h0 with
  | slOld hm hv' =>
    simp only [mu1, if_true, Option.some.injEq] at hm
    subst hm
    omega
  | slNil hm hv' =>
    obtain rfl : d = [] := List.eq_nil_of_length_eq_zero hn
    refine (Any.slices_Sort_int_none L _ 0 w).mono fun e w' ⟨he, hw⟩ => ?_
    subst hw
    exact ⟨_, he, Ext.refl _ _, by simpa [sortI] using hh, .tup rfl fun i hi => absurd hi (by simp)⟩
  | @sl _ _ _ _ _ cap loc g0 n0 hm hv' hb hc hfit hz =>
    simp only [mu1, if_true, Option.some.injEq] at hm
    subst hm
    subst hn
    obtain ⟨hbig, hh⟩ := hh
    rw [hb] at hh
    obtain ⟨c, el, hheap, hcs, hlen', hone, hrep⟩ := hh.1 (by simp)
    rw [hsz] at hfit
    simp only [Nat.zero_mul, Nat.add_zero, Nat.zero_add, Nat.mul_one, List.length_map, hsz] at hfit hlen' ⊢
    have hcell : ∀ i, i < d.length → c.getD (l.base + i) undef = .int .i64 (d[i]!) := by
      intro i hi
      have := (hrep i (by simpa using hi)).2
      simp only [List.getD_eq_getElem?_getD, List.getElem?_map, List.getElem?_eq_getElem hi, Option.map_some, Option.getD_some, Nat.mul_one, if_false, Bool.false_eq_true, elemVal] at this
      rw [getElem!_pos d i hi]
      exact this.one.1
    refine (Any.slices_Sort_int L g0 l.base cap d w (fun j hj => ?_) (lt_of_heap hheap) (by simp only [List.length_map, big] at hbig; omega)).mono fun e w' ⟨he, n, os, hw⟩ => ?_
    · have hj' : j < d.length := by simpa using hj
      have hlt : l.base + j < c.size := by omega
      have h3 := hcell j hj'
      refine ⟨?_, ?_⟩
      · unfold World.cell?
        simp only [hheap]
        simp only [Array.getD_eq_getD_getElem?, Array.getElem?_eq_getElem hlt, Option.getD_some] at h3
        simp [hlt, h3, hj']
      · unfold World.frozen?
        simp [hheap]
    · have hw2 : w' = Go.Proofs.sortWorld (Value.int .i64) w g0 l.base n (sortI d).toArray os := hw
      subst hw2
      refine ⟨_, he, ⟨⟨rfl, Nat.le_add_right _ _⟩, rfl, rfl, sortWorld_size, fun b hlt hno => sortWorld_other hlt ?_⟩, ⟨by simpa [hsl] using hbig, ?_⟩, .tup rfl fun i hi => absurd hi (by simp)⟩
      · rintro rfl
        exact hno (blks_mu1.2 ⟨n0, hb⟩)
      · rw [hb]
        refine ⟨fun _ => ⟨_, el, sortWorld_at hheap, by simpa [Go.Sort.putCells] using hcs, by simpa [hsl] using hlen', fun j hj => ?_, fun i hi => ?_⟩, fun h => by cases h⟩
        · rw [putCells_getD (by omega)]
          split
          · rfl
          · exact hone j hj
        · have hi' : i < (sortI d).length := by simpa using hi
          have hlt : l.base + i * 1 < c.size := by rw [hcs]; omega
          have e3 : (List.map iv (sortI d)).getD i .junk = iv ((sortI d)[i]!) := by
            rw [List.getD_eq_getElem?_getD, List.getElem?_map, List.getElem?_eq_getElem hi', getElem!_pos (sortI d) i hi']
            rfl
          rw [e3]
          refine ⟨rfl, ?_⟩
          show Rep _ _ Mu.none _ ((Go.Sort.putCells (Value.int .i64) l.base (sortI d).toArray c).getD (l.base + i * 1) undef)
          rw [putCells_getD hlt, if_pos (by simp; omega), show l.base + i * 1 - l.base = i by omega]
          have e4 : (sortI d).toArray[i]! = (sortI d)[i]! := by simp
          rw [e4]
          exact .raw rfl
end
end Go.Proofs.YtgfgkfkplidncaaGreat
end

section
/- The library's sort of words at this program: where its functions and types stand (written by the kit's tool lay-plain), and its contract. -/
namespace Go.Proofs.YtgfgkfkplidncaaGreat
open Go.Abs Go Go.Shelf
def lsortI_ren : Go.Shelf.Ren := ⟨fun | 189 => 83 | 125 => 105 | 257 => 104 | 128 => 121 | 129 => 122 | 294 => 112 | 295 => 113 | 296 => 114 | 297 => 115 | 298 => 116 | 299 => 117 | 216 => 118 | 300 => 119 | 301 => 120 | 328 => 143 | 329 => 144 | 330 => 145 | 331 => 146 | 332 => 147 | 215 => 133 | 343 => 154 | n => n, fun | 28 => 23 | 3 => 3 | 46 => 113 | 0 => 0 | 51 => 130 | 53 => 132 | 4 => 4 | 183 => 123 | 182 => 122 | 131 => 127 | 5 => 5 | 9 => 9 | 218 => 148 | 222 => 152 | 228 => 158 | 229 => 105 | n => n, fun | n => n⟩
theorem lsortI : Go.Proofs.Lays.n189 Tryz.prog lsortI_ren := {
  mixed := by kernel_rfl
  f125 := Tryz.func105.trans (congrArg some (by kernel_rfl))
  f128 := Tryz.func121.trans (congrArg some (by kernel_rfl))
  f129 := Tryz.func122.trans (congrArg some (by kernel_rfl))
  f189 := Tryz.func83.trans (congrArg some (by kernel_rfl))
  f215 := Tryz.func133.trans (congrArg some (by kernel_rfl))
  f216 := Tryz.func118.trans (congrArg some (by kernel_rfl))
  f257 := Tryz.func104.trans (congrArg some (by kernel_rfl))
  f294 := Tryz.func112.trans (congrArg some (by kernel_rfl))
  f295 := Tryz.func113.trans (congrArg some (by kernel_rfl))
  f296 := Tryz.func114.trans (congrArg some (by kernel_rfl))
  f297 := Tryz.func115.trans (congrArg some (by kernel_rfl))
  f298 := Tryz.func116.trans (congrArg some (by kernel_rfl))
  f299 := Tryz.func117.trans (congrArg some (by kernel_rfl))
  f300 := Tryz.func119.trans (congrArg some (by kernel_rfl))
  f301 := Tryz.func120.trans (congrArg some (by kernel_rfl))
  f328 := Tryz.func143.trans (congrArg some (by kernel_rfl))
  f329 := Tryz.func144.trans (congrArg some (by kernel_rfl))
  f330 := Tryz.func145.trans (congrArg some (by kernel_rfl))
  f331 := Tryz.func146.trans (congrArg some (by kernel_rfl))
  f332 := Tryz.func147.trans (congrArg some (by kernel_rfl))
  f343 := Tryz.func154.trans (congrArg some (by kernel_rfl))
  t0 := Tryz.underlying0
  a0 := Tryz.isAgg0
  z0 := Tryz.sizeOf0
  v0 := Tryz.zeroValue0
  t3 := Tryz.underlying3
  a3 := Tryz.isAgg3
  z3 := Tryz.sizeOf3
  v3 := Tryz.zeroValue3
  t4 := Tryz.underlying4
  a4 := Tryz.isAgg4
  z4 := Tryz.sizeOf4
  v4 := Tryz.zeroValue4
  t5 := Tryz.underlying5
  a5 := Tryz.isAgg5
  z5 := Tryz.sizeOf5
  v5 := Tryz.zeroValue5
  t9 := Tryz.underlying9
  a9 := Tryz.isAgg9
  z9 := Tryz.sizeOf9
  v9 := Tryz.zeroValue9
  t28 := Tryz.underlying23
  a28 := Tryz.isAgg23
  z28 := Tryz.sizeOf23
  v28 := Tryz.zeroValue23
  t46 := Tryz.underlying113
  a46 := Tryz.isAgg113
  z46 := Tryz.sizeOf113
  v46 := Tryz.zeroValue113
  t51 := Tryz.underlying130
  a51 := Tryz.isAgg130
  z51 := Tryz.sizeOf130
  v51 := Tryz.zeroValue130
  t53 := Tryz.underlying132
  a53 := Tryz.isAgg132
  z53 := Tryz.sizeOf132
  v53 := Tryz.zeroValue132
  t131 := Tryz.underlying127
  a131 := Tryz.isAgg127
  z131 := Tryz.sizeOf127
  v131 := Tryz.zeroValue127
  t182 := Tryz.underlying122
  a182 := Tryz.isAgg122
  z182 := Tryz.sizeOf122
  v182 := Tryz.zeroValue122
  t183 := Tryz.underlying123
  a183 := Tryz.isAgg123
  z183 := Tryz.sizeOf123
  v183 := Tryz.zeroValue123
  t218 := Tryz.underlying148
  a218 := Tryz.isAgg148
  z218 := Tryz.sizeOf148
  v218 := Tryz.zeroValue148
  t222 := Tryz.underlying152
  a222 := Tryz.isAgg152
  z222 := Tryz.sizeOf152
  v222 := Tryz.zeroValue152
  t228 := Tryz.underlying158
  a228 := Tryz.isAgg158
  z228 := Tryz.sizeOf158
  v228 := Tryz.zeroValue158
  t229 := Tryz.underlying105
  a229 := Tryz.isAgg105
  z229 := Tryz.sizeOf105
  v229 := Tryz.zeroValue105 }
end Go.Proofs.YtgfgkfkplidncaaGreat
end

section
/- The library's sort of names (structs of two numbers), over a lent box. -/
namespace Go.Proofs.YtgfgkfkplidncaaGreat
open Go.Abs Go

@[simp] def pairV (x : Int × Int) : AV := .agg [iv x.1, iv x.2]
/-- How two names compare. -/
def cmpN (a b : Int × Int) : Int := if cmpI a.1 b.1 ≠ 0 then cmpI a.1 b.1 else cmpI a.2 b.2
section
open Go.Sort Go.Shelf
variable {P : Program} {ρ : Ren}
def encN (x : Int × Int) : List Value := [.int .i64 x.1, .int .i64 x.2]
theorem cmpN_lt (a b : Int × Int) : ltOf cmpN a b = !leNB b a := by
  unfold ltOf cmpN cmpI leNB
  rw [Bool.eq_iff_iff]
  simp only [decide_eq_true_eq, Bool.not_eq_true', Bool.or_eq_false_iff, Bool.and_eq_false_iff, decide_eq_false_iff_not]
  by_cases h1 : a.1 < b.1
  · simp [h1] <;> omega
  · by_cases h2 : b.1 < a.1
    · simp [h1, h2]
    · by_cases h3 : a.2 < b.2
      · simp [h1, h2, h3] <;> omega
      · by_cases h4 : b.2 < a.2
        · simp [h1, h2, h3, h4] <;> omega
        · simp [h1, h2, h3, h4] <;> omega
theorem cmpN_swo : SWO (ltOf cmpN) := by
  refine ⟨fun x => ?_, fun x y z h1 h2 => ?_, fun x y z h1 h2 => ?_⟩
  · rw [cmpN_lt]; simp [leNB]
  · rw [cmpN_lt] at *
    simp only [leNB, Bool.not_eq_true', Bool.or_eq_false_iff, Bool.and_eq_false_iff, decide_eq_false_iff_not] at *
    omega
  · rw [cmpN_lt] at *
    simp only [leNB, Bool.not_eq_false', Bool.or_eq_true, Bool.and_eq_true, decide_eq_true_eq] at *
    omega
theorem flatN_get (d : Array (Int × Int)) (i : Nat) (h : i < d.size) : (flatK encN 2 d)[2 * i]! = .int .i64 (d[i]!).1 ∧ (flatK encN 2 d)[2 * i + 1]! = .int .i64 (d[i]!).2 := by
  refine ⟨?_, ?_⟩
  · rw [get_flatK _ _ _ _ (by omega), show 2 * i / 2 = i by omega, show 2 * i % 2 = 0 by omega]; rfl
  · rw [get_flatK _ _ _ _ (by omega), show (2 * i + 1) / 2 = i by omega, show (2 * i + 1) % 2 = 1 by omega]; rfl
theorem rep_pair {w : World} {Y : Nat → Prop} {μ : Mu} {x : Int × Int} {c : Array Value} {o : Nat} : Rep w Y μ (pairV x) (elemVal (pairV x) 2 c o) → c.getD o undef = .int .i64 x.1 ∧ c.getD (o + 1) undef = .int .i64 x.2 := by
  intro h
  simp only [pairV, elemVal] at h
  generalize hv : Value.agg (c.extract o (o + 2)) = v at h
  cases h with
  | agg hs h1 h2 =>
    cases hv
    have a0 := h2 0 (by simp)
    have a1 := h2 1 (by simp)
    have b0 := a0.one.1
    have b1 := a1.one.1
    have hsz : (c.extract o (o + 2)).size = 2 := by simpa using hs
    rw [Array.size_extract] at hsz
    have e0 : (c.extract o (o + 2)).getD 0 undef = c.getD o undef := by
      simp [Array.getD, Array.size_extract, show 0 < min (o + 2) c.size - o by omega, show o < c.size by omega]
    have e1 : (c.extract o (o + 2)).getD 1 undef = c.getD (o + 1) undef := by
      simp [Array.getD, Array.size_extract, show 1 < min (o + 2) c.size - o by omega, show o + 1 < c.size by omega]
    rw [e0] at b0
    rw [e1] at b1
    exact ⟨b0, b1⟩
theorem pair_rep {w : World} {Y : Nat → Prop} {μ : Mu} {x : Int × Int} {c : Array Value} {o : Nat} (ho : o + 2 ≤ c.size) (h0 : c.getD o undef = .int .i64 x.1) (h1 : c.getD (o + 1) undef = .int .i64 x.2) : Rep w Y μ (pairV x) (elemVal (pairV x) 2 c o) := by
  have e0 : (c.extract o (o + 2)).getD 0 undef = c.getD o undef := by
    simp [Array.getD, Array.size_extract, show 0 < min (o + 2) c.size - o by omega, show o < c.size by omega]
  have e1 : (c.extract o (o + 2)).getD 1 undef = c.getD (o + 1) undef := by
    simp [Array.getD, Array.size_extract, show 1 < min (o + 2) c.size - o by omega, show o + 1 < c.size by omega]
  refine .agg (by simp; omega) (fun i hi => ?_) (fun i hi => ?_)
  · match i, hi with
    | 0, _ => rw [e0, h0]; rfl
    | 1, _ => rw [e1, h1]; rfl
  · match i, hi with
    | 0, _ => rw [e0, h0]; exact .raw rfl
    | 1, _ => rw [e1, h1]; exact .raw rfl
theorem callL_sortN (L : SlLaysF0.n6 P ρ) (aE : ∀ w, (isAgg (ρ.t 24)).run P w = .ok true w) (zE : ∀ w, (Go.sizeOf (ρ.t 24)).run P w = .ok 2 w) {g : FuncId} (hg : ∀ a b : Int × Int, CallP P g [pairV a, pairV b] (iv (cmpN a b))) (d : List (Int × Int)) :
    CallL P (ρ.f 6) [] 2 (d.map pairV) [.fn g [] []] (.val (.tup [])) ((sortN d).map pairV) := by
  have hsl : (sortN d).length = d.length := (sortN_perm d).length_eq
  refine ⟨?_, fun w X l vs hv hsz hX hXl hh hlen hargs => ?_⟩
  · obtain ⟨nm, hn, hf⟩ := L.f6
    exact ⟨_, hf, by simpa using hn, by simp [SlBodyF.n6]⟩
  obtain ⟨v0, v1, rfl⟩ : ∃ v0 v1, vs = #[v0, v1] := by
    cases vs with
    | mk l =>
      match l, hlen with
      | [a, b], _ => exact ⟨a, b, rfl⟩
  have h0 : Rep w (Yof X (mu1 l)) (mu1 l) (.sl lid 0 0 (d.map pairV).length) v0 := hargs 0 (by simp)
  have h1 : Rep w (Yof X (mu1 l)) (mu1 l) (.fn g [] []) v1 := hargs 1 (by simp)
  generalize hn : (d.map pairV).length = n at h0
  simp only [List.length_map] at hn
  cases h1 with
  | @fn _ _ _ _ fs cs hs ht _ _ =>
  obtain rfl : fs = #[] := Array.eq_empty_of_size_eq_zero hs
  obtain rfl : cs = #[] := Array.eq_empty_of_size_eq_zero ht
  cases h0 with
  | slOld hm hv' =>
    simp only [mu1, if_true, Option.some.injEq] at hm
    subst hm
    omega
  | slNil hm hv' =>
    obtain rfl : d = [] := List.eq_nil_of_length_eq_zero hn
    refine (AnyF.slices_SortFunc_none (P := P) (ρ := ρ) { L with } _ 0 _ w).mono fun e w' ⟨he, hw⟩ => ?_
    subst hw
    exact ⟨_, he, Ext.refl _ _, by simpa [sortN] using hh, .tup rfl fun i hi => absurd hi (by simp)⟩
  | @sl _ _ _ _ _ cap loc g0 n0 hm hv' hb hc hfit hz =>
    simp only [mu1, if_true, Option.some.injEq] at hm
    subst hm
    subst hn
    obtain ⟨hbig, hh⟩ := hh
    rw [hb] at hh
    obtain ⟨c, el, hheap, hcs, hlen', hone, hrep⟩ := hh.1 (by simp)
    rw [hsz] at hfit
    simp only [Nat.zero_mul, Nat.add_zero, Nat.zero_add, List.length_map, hsz] at hfit hlen' hbig ⊢
    let Y : Nat → Prop := Yof X (mu1 l)
    have hY0 : Y g0 := .inr (blks_mu1.2 ⟨n0, hb⟩)
    have hYlt : ∀ b, Y b → b < w.heap.size := by
      rintro b (hx | hx)
      · exact hX b hx
      · obtain ⟨n, hn⟩ := blks_mu1.1 hx
        rw [hb] at hn
        simp only [Option.some.injEq, Prod.mk.injEq] at hn
        rw [← hn.1]
        exact lt_of_heap hheap
    have hcell : ∀ i, i < d.length → c.getD (l.base + i * 2) undef = .int .i64 (Go.Abs.el d i).1 ∧ c.getD (l.base + i * 2 + 1) undef = .int .i64 (Go.Abs.el d i).2 := by
      intro i hi
      have := (hrep i (by simpa using hi)).2
      have e : (List.map pairV d).getD i .junk = pairV (Go.Abs.el d i) := nth_map pairV d i hi
      rw [e] at this
      exact rep_pair this
    let arr : Array (Int × Int) := d.toArray
    have harr : arr.size = d.length := by simp [arr]
    have hget : ∀ i, i < d.length → arr[i]! = Go.Abs.el d i := by
      intro i hi
      rw [getElem!_pos arr i (by rw [harr]; exact hi), el_eq d i hi]
      simp [arr]
    have hkey := AnyQ.slices_SortFunc L 2 aE zE encN (fun _ => rfl) (fun x v hv => by simp only [encN, List.mem_cons, List.not_mem_nil, or_false] at hv; rcases hv with rfl | rfl <;> rfl) cmpN cmpN_swo g #[] g0 l.base cap arr w ?_ ?_ ?_ (lt_of_heap hheap) ?_
    · rw [harr] at hkey
      refine hkey.mono fun e w' ⟨he, d', n, os, hp, hs, hw⟩ => ?_
      obtain ⟨hp1, _, hp2⟩ := hp
      rw [harr] at hp1
      have hd' : d'.toList = sortN d := by
        symm
        refine sortN_eq ?_ ?_
        · have e1 : d'.extract 0 d.length = d' := by rw [← hp1]; exact Array.extract_size
          have e2 : arr.extract 0 d.length = arr := by rw [← harr]; exact Array.extract_size
          rw [e1, e2] at hp2
          exact hp2.symm
        · rw [List.pairwise_iff_getElem]
          intro i j hi hj hij
          have := hs i j (Nat.zero_le _) hij (by simpa [hp1] using hj)
          rw [cmpN_lt, getElem!_pos d' j (by simpa using hj), getElem!_pos d' i (by simpa using hi)] at this
          simpa using this
      have hw2 : w' = Go.Proofs.sortWorld id w g0 l.base n (flatK encN 2 d') os := hw
      subst hw2
      refine ⟨_, he, ⟨⟨rfl, ?_⟩, rfl, rfl, sortWorld_size, fun b hlt hno => sortWorld_other hlt ?_⟩, ⟨by simpa [hsl] using hbig, ?_⟩, .tup rfl fun i hi => absurd hi (by simp)⟩
      · exact Nat.le_add_right _ _
      · rintro rfl
        exact hno (blks_mu1.2 ⟨n0, hb⟩)
      · rw [hb]
        refine ⟨fun _ => ⟨_, el, sortWorld_at hheap, by simpa [Go.Sort.putCells] using hcs, by simpa [hsl] using hlen', fun j hj => ?_, fun i hi => ?_⟩, fun h => by cases h⟩
        · rw [putCells_getD (by omega)]
          split
          · rename_i hr
            rw [size_flatK, hp1] at hr
            have hq : j - l.base = 2 * ((j - l.base) / 2) ∨ j - l.base = 2 * ((j - l.base) / 2) + 1 := by omega
            have hlt : (j - l.base) / 2 < d'.size := by omega
            obtain ⟨q1, q2⟩ := flatN_get d' _ hlt
            rcases hq with e | e
            · rw [e, q1]; rfl
            · rw [e, q2]; rfl
          · exact hone j hj
        · have hi' : i < d.length := by simpa [hsl] using hi
          have hi2 : i < d'.size := by omega
          have e3 : (List.map pairV (sortN d)).getD i .junk = pairV (d'[i]!) := by
            rw [show (List.map pairV (sortN d)).getD i .junk = pairV (Go.Abs.el (sortN d) i) from nth_map pairV _ i (by omega), ← hd', el_eq _ _ (by simpa using hi2), getElem!_pos d' i hi2]
            simp
          rw [e3]
          have hlt : l.base + i * 2 + 1 < c.size := by omega
          have hlt0 : l.base + i * 2 < c.size := by omega
          refine ⟨rfl, pair_rep (by simpa [Go.Sort.putCells] using (by omega : l.base + i * 2 + 2 ≤ c.size)) ?_ ?_⟩
          · rw [putCells_getD hlt0, if_pos ⟨by omega, by rw [size_flatK]; omega⟩, show l.base + i * 2 - l.base = 2 * i by omega]
            exact (flatN_get d' i hi2).1
          · rw [putCells_getD hlt, if_pos ⟨by omega, by rw [size_flatK]; omega⟩, show l.base + i * 2 + 1 - l.base = 2 * i + 1 by omega]
            exact (flatN_get d' i hi2).2
    · intro args w1
      obtain ⟨fn, hf, hname, hbody⟩ := (hg (0, 0) (0, 0)).1
      cases hb2 : fn.body with
      | none => exact absurd hb2 hbody
      | some code => exact enters_of hf (by simpa using hname) hb2 args w1
    · intro m os dk hdk x y
      refine ((hg x y).2 _ Y _ (fun b hb' => Nat.lt_of_lt_of_le (hYlt b hb') (sortWorld_size (enc := id) (dk := flatK encN 2 dk))) rfl fun i hi => ?_).mono ?_
      · match i, hi with
        | 0, _ => exact .agg rfl (fun i hi => by match i, hi with | 0, _ => rfl | 1, _ => rfl) (fun i hi => by match i, hi with | 0, _ => exact .raw rfl | 1, _ => exact .raw rfl)
        | 1, _ => exact .agg rfl (fun i hi => by match i, hi with | 0, _ => rfl | 1, _ => rfl) (fun i hi => by match i, hi with | 0, _ => exact .raw rfl | 1, _ => exact .raw rfl)
      · rintro e w' ⟨v, he, hgw, hr⟩
        obtain ⟨rfl, _⟩ := hr.one
        exact ⟨he, _, _, grows_eq hgw⟩
    · intro j hj
      rw [size_flatK, harr] at hj
      have hlt : l.base + j < c.size := by omega
      have hq : j = 2 * (j / 2) ∨ j = 2 * (j / 2) + 1 := by omega
      have hlt2 : j / 2 < arr.size := by omega
      obtain ⟨q1, q2⟩ := flatN_get arr _ hlt2
      obtain ⟨c1, c2⟩ := hcell (j / 2) (by omega)
      have hcv : c.getD (l.base + j) undef = (flatK encN 2 arr)[j]! := by
        rcases hq with e | e
        · rw [e, q1, hget _ (by omega), ← e, show l.base + j = l.base + j / 2 * 2 by omega]; exact c1
        · rw [e, q2, hget _ (by omega), show l.base + (2 * (j / 2) + 1) = l.base + j / 2 * 2 + 1 by omega]; exact c2
      refine ⟨?_, ?_⟩
      · unfold World.cell?
        simp only [hheap]
        rw [← hcv]
        simp [Array.getD, hlt]
      · unfold World.frozen?
        simp [hheap]
    · rw [harr]
      simp only [big] at hbig
      omega
end
end Go.Proofs.YtgfgkfkplidncaaGreat
end

section
/- The library's sort of names at this program: where its functions and types stand (written by the kit's tool lay-plain), and its contract. -/
namespace Go.Proofs.YtgfgkfkplidncaaGreat
open Go.Abs Go Go.Shelf
def lsortN_ren : Go.Shelf.Ren := ⟨fun | 6 => 87 | 15 => 105 | 14 => 107 | 28 => 121 | 29 => 122 | 20 => 125 | 21 => 126 | 22 => 127 | 23 => 128 | 24 => 129 | 25 => 130 | 26 => 131 | 27 => 132 | 46 => 148 | 47 => 144 | 48 => 145 | 49 => 149 | 50 => 150 | 57 => 155 | n => n, fun | 22 => 94 | 24 => 95 | 25 => 97 | 3 => 3 | 39 => 113 | 0 => 0 | 53 => 130 | 55 => 132 | 4 => 4 | 46 => 123 | 45 => 122 | 50 => 127 | 5 => 5 | 9 => 9 | 66 => 148 | 70 => 152 | 76 => 158 | 77 => 105 | n => n, fun | n => n⟩
theorem lsortN : Go.Proofs.SlLaysF0.n6 Tryz.prog lsortN_ren := {
  mixed := by kernel_rfl
  f6 := ⟨Tryz.f87.name, by decide, Tryz.func87.trans (congrArg some (by kernel_rfl))⟩
  f14 := ⟨Tryz.f107.name, by decide, Tryz.func107.trans (congrArg some (by kernel_rfl))⟩
  f15 := Tryz.func105.trans (congrArg some (by kernel_rfl))
  f20 := ⟨Tryz.f125.name, by decide, Tryz.func125.trans (congrArg some (by kernel_rfl))⟩
  f21 := ⟨Tryz.f126.name, by decide, Tryz.func126.trans (congrArg some (by kernel_rfl))⟩
  f22 := ⟨Tryz.f127.name, by decide, Tryz.func127.trans (congrArg some (by kernel_rfl))⟩
  f23 := ⟨Tryz.f128.name, by decide, Tryz.func128.trans (congrArg some (by kernel_rfl))⟩
  f24 := ⟨Tryz.f129.name, by decide, Tryz.func129.trans (congrArg some (by kernel_rfl))⟩
  f25 := ⟨Tryz.f130.name, by decide, Tryz.func130.trans (congrArg some (by kernel_rfl))⟩
  f26 := ⟨Tryz.f131.name, by decide, Tryz.func131.trans (congrArg some (by kernel_rfl))⟩
  f27 := ⟨Tryz.f132.name, by decide, Tryz.func132.trans (congrArg some (by kernel_rfl))⟩
  f28 := Tryz.func121.trans (congrArg some (by kernel_rfl))
  f29 := Tryz.func122.trans (congrArg some (by kernel_rfl))
  f46 := ⟨Tryz.f148.name, by decide, Tryz.func148.trans (congrArg some (by kernel_rfl))⟩
  f47 := Tryz.func144.trans (congrArg some (by kernel_rfl))
  f48 := Tryz.func145.trans (congrArg some (by kernel_rfl))
  f49 := ⟨Tryz.f149.name, by decide, Tryz.func149.trans (congrArg some (by kernel_rfl))⟩
  f50 := ⟨Tryz.f150.name, by decide, Tryz.func150.trans (congrArg some (by kernel_rfl))⟩
  f57 := ⟨Tryz.f155.name, by decide, Tryz.func155.trans (congrArg some (by kernel_rfl))⟩
  t0 := Tryz.underlying0
  a0 := Tryz.isAgg0
  z0 := Tryz.sizeOf0
  v0 := Tryz.zeroValue0
  t3 := Tryz.underlying3
  a3 := Tryz.isAgg3
  z3 := Tryz.sizeOf3
  v3 := Tryz.zeroValue3
  t4 := Tryz.underlying4
  a4 := Tryz.isAgg4
  z4 := Tryz.sizeOf4
  v4 := Tryz.zeroValue4
  t5 := Tryz.underlying5
  a5 := Tryz.isAgg5
  z5 := Tryz.sizeOf5
  v5 := Tryz.zeroValue5
  t9 := Tryz.underlying9
  a9 := Tryz.isAgg9
  z9 := Tryz.sizeOf9
  v9 := Tryz.zeroValue9
  t22 := Tryz.underlying94
  a22 := Tryz.isAgg94
  z22 := Tryz.sizeOf94
  v22 := Tryz.zeroValue94
  t25 := Tryz.underlying97
  a25 := Tryz.isAgg97
  z25 := Tryz.sizeOf97
  v25 := Tryz.zeroValue97
  t39 := Tryz.underlying113
  a39 := Tryz.isAgg113
  z39 := Tryz.sizeOf113
  v39 := Tryz.zeroValue113
  t45 := Tryz.underlying122
  a45 := Tryz.isAgg122
  z45 := Tryz.sizeOf122
  v45 := Tryz.zeroValue122
  t46 := Tryz.underlying123
  a46 := Tryz.isAgg123
  z46 := Tryz.sizeOf123
  v46 := Tryz.zeroValue123
  t50 := Tryz.underlying127
  a50 := Tryz.isAgg127
  z50 := Tryz.sizeOf127
  v50 := Tryz.zeroValue127
  t53 := Tryz.underlying130
  a53 := Tryz.isAgg130
  z53 := Tryz.sizeOf130
  v53 := Tryz.zeroValue130
  t55 := Tryz.underlying132
  a55 := Tryz.isAgg132
  z55 := Tryz.sizeOf132
  v55 := Tryz.zeroValue132
  t66 := Tryz.underlying148
  a66 := Tryz.isAgg148
  z66 := Tryz.sizeOf148
  v66 := Tryz.zeroValue148
  t70 := Tryz.underlying152
  a70 := Tryz.isAgg152
  z70 := Tryz.sizeOf152
  v70 := Tryz.zeroValue152
  t76 := Tryz.underlying158
  a76 := Tryz.isAgg158
  z76 := Tryz.sizeOf158
  v76 := Tryz.zeroValue158
  t77 := Tryz.underlying105
  a77 := Tryz.isAgg105
  z77 := Tryz.sizeOf105
  v77 := Tryz.zeroValue105 }
end Go.Proofs.YtgfgkfkplidncaaGreat
end

section
/- Contracts: the library's sorts at this program. -/
namespace Go.Proofs.YtgfgkfkplidncaaGreat
open Go.Abs Go
set_option maxRecDepth 20000
set_option maxHeartbeats 2000000
attribute [local irreducible] PreK CondK CallK CallG CallX LoopK
attribute [local simp] avsEq avEq akind teq vkind vEq

theorem sortI_L (l : List Int) : CallL Tryz.prog 83 [] 1 (l.map iv) [] (.val (.tup [])) ((sortI l).map iv) := callL_sortI lsortI l
theorem sortW_L (l : List (List Int)) : CallL Tryz.prog 92 [] 1 (l.map ints) [.fn 93 [] []] (.val (.tup [])) ((sortW l).map ints) := callL_sort lsort Compare_c l
theorem or_c (a b : Int) : CallP Tryz.prog 108 [ints [a, b]] (iv (if a ≠ 0 then a else b)) := by
  refine C108 (by simp) ?_
  simp [A108]
  refine LoopK.by (ι := Nat) (fun i => ⟨[(8, iv i), (7, iv 2), (6, ints [a, b]), (3, iv 0)], []⟩) (fun i => 2 - i) (fun i => i ≤ 2 ∧ (1 ≤ i → a = 0) ∧ (2 ≤ i → b = 0)) 0 ⟨by omega, by omega, by omega⟩ (by simp) ?_
  intro i Q' ⟨hi, h1, h2⟩ hq he hr
  match i, hi with
  | 0, _ =>
    try simp 
    refine CondK.tt ?_
    try simp 
    repeat (refine PreK.intro (by first | omega | (intros; first | omega | (refine ⟨by omega, ?_⟩; simp_all; done) | (simp_all; done) | (simp_all; omega))) fun _ => ?_; (try simp ))
    refine CondK.intro (fun h3 => ?_) (fun h3 => ?_)
    · simp at h3
      try simp 
      apply hr
      simp [h3]
    · simp at h3
      repeat (refine PreK.intro (by first | omega | (intros; first | omega | (refine ⟨by omega, ?_⟩; simp_all; done) | (simp_all; done) | (simp_all; omega))) fun _ => ?_; (try simp ))
      exact hq 1 _ ⟨by omega, fun _ => h3, by omega⟩ (by omega) (by simp)
  | 1, _ =>
    have h1 := h1 (by omega)
    subst h1
    try simp 
    refine CondK.tt ?_
    try simp 
    repeat (refine PreK.intro (by first | omega | (intros; first | omega | (refine ⟨by omega, ?_⟩; simp_all; done) | (simp_all; done) | (simp_all; omega))) fun _ => ?_; (try simp ))
    refine CondK.intro (fun h3 => ?_) (fun h3 => ?_)
    · simp at h3
      try simp 
      apply hr
      simp [h3]
    · simp at h3
      repeat (refine PreK.intro (by first | omega | (intros; first | omega | (refine ⟨by omega, ?_⟩; simp_all; done) | (simp_all; done) | (simp_all; omega))) fun _ => ?_; (try simp ))
      exact hq 2 _ ⟨by omega, fun _ => rfl, fun _ => h3⟩ (by omega) (by simp)
  | 2, _ =>
    have h1 := h1 (by omega)
    have h2 := h2 (by omega)
    subst h1 h2
    try simp 
    refine CondK.ff ?_
    try simp 
    try simp 
    apply he
    try simp 
theorem labelCompare_c (a b : Int × Int) : CallP Tryz.prog 88 [pairV a, pairV b] (iv (cmpN a b)) := by
  refine C88 (by simp) ?_
  simp [A88]
  refine CallK.intro (by simpa using cmpInt_c a.1 b.1) (by simp) (by simp) ?_
  try simp 
  repeat (refine PreK.intro (by first | omega | (intros; first | omega | (refine ⟨by omega, ?_⟩; simp_all; done) | (simp_all; done) | (simp_all; omega))) fun _ => ?_; (try simp ))
  refine CallK.intro (by simpa using cmpInt_c a.2 b.2) (by simp) (by simp) ?_
  try simp 
  repeat (refine PreK.intro (by first | omega | (intros; first | omega | (refine ⟨by omega, ?_⟩; simp_all; done) | (simp_all; done) | (simp_all; omega))) fun _ => ?_; (try simp ))
  refine CallK.intro (by simpa using or_c (cmpI a.1 b.1) (cmpI a.2 b.2)) (by simp) (by simp) ?_
  try simp 
  repeat (refine PreK.intro (by first | omega | (intros; first | omega | (refine ⟨by omega, ?_⟩; simp_all; done) | (simp_all; done) | (simp_all; omega))) fun _ => ?_; (try simp ))
  simp [cmpN]
theorem sortN_L (l : List (Int × Int)) : CallL Tryz.prog 87 [] 2 (l.map pairV) [.fn 88 [] []] (.val (.tup [])) ((sortN l).map pairV) :=
  callL_sortN lsortN Tryz.isAgg95 Tryz.sizeOf95 labelCompare_c l
end Go.Proofs.YtgfgkfkplidncaaGreat
end

section
/- Contracts: orders; the sounds of a table, their rows; which tables are right. -/
namespace Go.Proofs.YtgfgkfkplidncaaGreat
open Go.Abs Go
set_option maxRecDepth 20000
set_option maxHeartbeats 2000000
attribute [local irreducible] PreK CondK CallK CallG CallX LoopK
attribute [local simp] avsEq avEq akind teq vkind vEq

theorem flat_ivs (l : List Int) : ∀ i, i < (l.map iv).length → flat ((l.map iv).getD i .junk) = true := by
  intro i hi
  rw [show (l.map iv).getD i .junk = iv (el l i) from nth_map iv l i (by simpa using hi)]
  rfl
theorem rsounds_c (t : Tab) (h : Sm t) : CallP Tryz.prog 61 [tabV t] (ints t.flatten) := by
  refine C61 (by simp) ?_
  have hn := h.num
  have hfl := flat_le t h.row
  generalize hR : t.flatten = R at hfl
  simp [A61]
  refine LoopK.by (ι := Nat × Nat × List Int) (fun x => ⟨[(4, iv x.1), (3, .sl 3 x.2.1 0 x.2.2.length), (0, tabV t)], [(3, some ⟨1, x.2.2.map iv, x.2.1, false⟩)]⟩) (fun x => t.length - x.1) (fun x => x.1 ≤ t.length ∧ x.2.2 ++ (t.drop x.1).flatten = R) (0, 1, []) ⟨Nat.zero_le _, by simpa using hR⟩ (by simp) ?_
  intro ⟨i, ver, acc⟩ Q' ⟨hi, hc⟩ hq he hr
  dsimp only at hi hc
  try simp 
  refine CondK.intro (fun h1 => ?_) (fun h1 => ?_)
  · simp at h1
    have hel := h.el i
    rw [drop_cons t i h1, List.flatten_cons, ← List.append_assoc] at hc
    have hlen : acc.length + (el t i).length ≤ 5000 := by
      have := congrArg List.length hc
      simp only [List.length_append] at this
      omega
    repeat (refine PreK.intro (by first | omega | (intros; first | omega | (refine ⟨by omega, ?_⟩; simp_all; done) | (simp_all; done) | (simp_all; omega))) fun _ => ?_; (try simp [h1]))
    exact hq (i + 1, ver + 1, acc ++ el t i) _ ⟨by dsimp only; omega, hc⟩ (by dsimp only; omega) (by simp)
  · simp at h1
    rw [List.drop_eq_nil_of_le (by omega)] at hc
    simp only [List.flatten_nil, List.append_nil] at hc
    try simp 
    apply he
    repeat (refine PreK.intro (by first | omega | (intros; first | omega | (refine ⟨by omega, ?_⟩; simp_all; done) | (simp_all; done) | (simp_all; omega))) fun _ => ?_; (try simp ))
    simp [hc]
theorem rValidate_c (t : Tab) (h : Sm t) : CallP Tryz.prog 50 [tabV t] (iv (tabErr t)) := by
  refine C50 (by simp) ?_
  have hn := h.num
  have hsc := rsounds_c t h
  have hfl := flat_le t h.row
  generalize hR : tabErr t = R
  unfold tabErr at hR
  simp [A50]
  have hw := within1_c t.length 1 6
  generalize hb : (decide (1 ≤ (t.length : Int)) && decide ((t.length : Int) ≤ 6)) = b at hR hw
  cases b with
  | false =>
    try simp 
    repeat' (first
      | (refine CallX.pure (hw) (by simp) (by simp) ?_; try simp )
      | (refine CallK.intro (hw) (by simp) (by simp) ?_; try simp )
      | (refine CallG.intro (fun _ => hw) (by simp) (by simp) ?_; try simp )
      | ((with_reducible refine PreK.intro ?_ ?_); (next => (first | omega | (intros; first | omega | (refine ⟨by omega, ?_⟩; repeat (first | assumption | constructor)) | assumption))); intro _; try simp )
      | fail)
    refine CondK.tt ?_
    try simp 
    simpa using hR
  | true =>
    simp only [Bool.and_eq_true, decide_eq_true_eq] at hb
    simp only [Bool.not_true, Bool.false_eq_true, if_false] at hR
    try simp 
    repeat' (first
      | (refine CallX.pure (hw) (by simp) (by simp) ?_; try simp )
      | (refine CallK.intro (hw) (by simp) (by simp) ?_; try simp )
      | (refine CallG.intro (fun _ => hw) (by simp) (by simp) ?_; try simp )
      | ((with_reducible refine PreK.intro ?_ ?_); (next => (first | omega | (intros; first | omega | (refine ⟨by omega, ?_⟩; repeat (first | assumption | constructor)) | assumption))); intro _; try simp )
      | fail)
    refine CondK.ff ?_
    try simp 
    try simp 
    refine LoopK.by (fun i : Nat => ⟨[(3, iv i), (0, tabV t)], []⟩) (fun i => t.length - i) (fun i => i ≤ t.length ∧ (if (t.drop i).any rowBad = true then (1 : Int) else if t.flatten.Nodup then 0 else 5) = R) 0 (by simpa using hR) (by simp) ?_
    intro i Q' ⟨hi, hc⟩ hq he hr
    try simp 
    refine CondK.intro (fun h1 => ?_) (fun h1 => ?_)
    · simp at h1
      have hel := h.el i
      rw [drop_cons t i h1, List.any_cons] at hc
      rw [show rowBad (el t i) = (decide (el t i = []) || (el t i).any fun x => !okS x) from rfl] at hc
      repeat (refine PreK.intro (by first | omega | (intros; first | omega | (refine ⟨by omega, ?_⟩; simp_all; done) | (simp_all; done) | (simp_all; omega))) fun _ => ?_; (try simp [h1]))
      refine CondK.intro (fun h2 => ?_) (fun h2 => ?_)
      · simp at h2
        simp only [h2, decide_true, Bool.true_or, if_true] at hc
        try simp 
        apply hr
        simp [hc]
      · simp at h2
        simp only [h2, decide_false, Bool.false_or] at hc
        try simp 
        refine LoopK.by (fun k : Nat => ⟨[(4, iv k), (3, iv i), (0, tabV t)], []⟩) (fun k => (el t i).length - k) (fun k => k ≤ (el t i).length ∧ (if (((el t i).drop k).any (fun x => !okS x) || (t.drop (i + 1)).any rowBad) = true then (1 : Int) else if t.flatten.Nodup then 0 else 5) = R) 0 ⟨Nat.zero_le _, by simpa using hc⟩ (by simp) ?_
        intro k Q2 ⟨hk, hc2⟩ hq2 he2 hr2
        try simp 
        repeat (refine PreK.intro (by first | omega | (intros; first | omega | (refine ⟨by omega, ?_⟩; simp_all; done) | (simp_all; done) | (simp_all; omega))) fun _ => ?_; (try simp [h1]))
        refine CondK.intro (fun h3 => ?_) (fun h3 => ?_)
        · simp at h3
          have hw2 := within1_c (el (el t i) k) 0 5
          rw [drop_cons (el t i) k h3, List.any_cons] at hc2
          unfold okS at hc2
          generalize (decide (0 ≤ el (el t i) k) && decide (el (el t i) k ≤ 5)) = b2 at hw2 hc2
          try simp [h1, h3]
          repeat' (first
            | (refine CallX.pure (hw2) (by simp) (by simp) ?_; try simp [h1, h3])
            | (refine CallK.intro (hw2) (by simp) (by simp) ?_; try simp [h1, h3])
            | (refine CallG.intro (fun _ => hw2) (by simp) (by simp) ?_; try simp [h1, h3])
            | ((with_reducible refine PreK.intro ?_ ?_); (next => (first | omega | (intros; first | omega | (refine ⟨by omega, ?_⟩; repeat (first | assumption | constructor)) | assumption))); intro _; try simp [h1, h3])
            | fail)
          cases b2 with
          | false =>
            simp only [Bool.not_false, Bool.true_or, if_true] at hc2
            refine CondK.tt ?_
            try simp 
            apply hr2
            try simp 
            apply hr
            simp [hc2]
          | true =>
            simp only [Bool.not_true, Bool.false_or] at hc2
            refine CondK.ff ?_
            try simp 
            repeat (refine PreK.intro (by first | omega | (intros; first | omega | (refine ⟨by omega, ?_⟩; simp_all; done) | (simp_all; done) | (simp_all; omega))) fun _ => ?_; (try simp ))
            exact hq2 (k + 1) _ ⟨by omega, hc2⟩ (by omega) (by simp)
        · simp at h3
          rw [List.drop_eq_nil_of_le (by omega)] at hc2
          simp only [List.any_nil, Bool.false_or] at hc2
          try simp 
          apply he2
          repeat (refine PreK.intro (by first | omega | (intros; first | omega | (refine ⟨by omega, ?_⟩; simp_all; done) | (simp_all; done) | (simp_all; omega))) fun _ => ?_; (try simp ))
          exact hq (i + 1) _ ⟨by omega, hc2⟩ (by omega) (by simp)
    · simp at h1
      rw [List.drop_eq_nil_of_le (by omega)] at hc
      simp only [List.any_nil, Bool.false_eq_true, if_false] at hc
      try simp 
      apply he
      try simp 
      repeat' (first
        | (refine CallX.pure (hsc) (by simp) (by simp) ?_; try simp )
        | (refine CallK.intro (hsc) (by simp) (by simp) ?_; try simp )
        | (refine CallG.intro (fun _ => hsc) (by simp) (by simp) ?_; try simp )
        | ((with_reducible refine PreK.intro ?_ ?_); (next => (first | omega | (intros; first | omega | (refine ⟨by omega, ?_⟩; repeat (first | assumption | constructor)) | assumption))); intro _; try simp )
        | fail)
      clear hq he hr
      have hmf : (List.map (List.map iv) t).flatten = List.map iv t.flatten := by rw [List.map_flatten]
      generalize t.flatten = l at hc hfl hmf
      refine LoopK.by (fun k : Nat => ⟨[(6, iv k), (5, ints l)], []⟩) (fun k => l.length - k) (fun k => k ≤ l.length ∧ (l.take k).Nodup) 0 (by simp) (by simp [hmf]) ?_
      intro k Q' ⟨hk, hnd⟩ hq he hr
      try simp 
      refine CondK.intro (fun h1 => ?_) (fun h1 => ?_)
      · simp at h1
        have hh := has1_c (l.take k) (el l k) (sbig (by rw [List.length_take]; omega))
        have hcn : (l.take k).contains (el l k) = decide (el l k ∈ l.take k) := by rw [Bool.eq_iff_iff, List.contains_iff_mem, decide_eq_true_eq]
        rw [hcn] at hh
        repeat (refine PreK.intro (by first | omega | (intros; first | omega | (refine ⟨by omega, ?_⟩; simp_all; done) | (simp_all; done) | (simp_all; omega))) fun _ => ?_; (try simp [h1]))
        refine CallK.intro (by simpa using hh) (by simp) (by simp) ?_
        try simp [h1]
        refine CondK.intro (fun h2 => ?_) (fun h2 => ?_)
        · simp only [decide_eq_true_eq] at h2
          have : ¬ l.Nodup := fun hn => (take_nodup hnd h1).1 (hn.sublist (List.take_sublist _ _)) h2
          rw [if_neg this] at hc
          try simp 
          apply hr
          simp [hc]
        · simp only [decide_eq_false_iff_not] at h2
          repeat (refine PreK.intro (by first | omega | (intros; first | omega | (refine ⟨by omega, ?_⟩; simp_all; done) | (simp_all; done) | (simp_all; omega))) fun _ => ?_; (try simp ))
          exact hq (k + 1) _ ⟨by omega, (take_nodup hnd h1).2 h2⟩ (by omega) (by simp)
      · simp at h1
        rw [List.take_of_length_le (by omega)] at hnd
        rw [if_pos hnd] at hc
        try simp 
        apply he
        simp [hc]
/-! ### the program's check, its line -/
@[simp] def lineV (t : Tab) : AV := .agg [ints t.flatten, ints (rowsF 0 t)]
theorem Validate_c (t : Tab) (h : Sm t) : CallP Tryz.prog 42 [tabV t] (iv (tabErr t)) := by
  refine C42 (by simp) ?_
  have hn := h.num
  have hfl := flat_le t h.row
  generalize hR : tabErr t = R
  unfold tabErr at hR
  simp [A42]
  have hw := swithin_c t.length 1 6
  generalize hb : (decide (1 ≤ (t.length : Int)) && decide ((t.length : Int) ≤ 6)) = b at hR hw
  cases b with
  | false =>
    try simp 
    repeat' (first
      | (refine CallX.pure (hw) (by simp) (by simp) ?_; try simp )
      | (refine CallK.intro (hw) (by simp) (by simp) ?_; try simp )
      | (refine CallG.intro (fun _ => hw) (by simp) (by simp) ?_; try simp )
      | ((with_reducible refine PreK.intro ?_ ?_); (next => (first | omega | (intros; first | omega | (refine ⟨by omega, ?_⟩; repeat (first | assumption | constructor)) | assumption))); intro _; try simp )
      | fail)
    refine CondK.tt ?_
    try simp 
    simpa using hR
  | true =>
    simp only [Bool.and_eq_true, decide_eq_true_eq] at hb
    simp only [Bool.not_true, Bool.false_eq_true, if_false] at hR
    try simp 
    repeat' (first
      | (refine CallX.pure (hw) (by simp) (by simp) ?_; try simp )
      | (refine CallK.intro (hw) (by simp) (by simp) ?_; try simp )
      | (refine CallG.intro (fun _ => hw) (by simp) (by simp) ?_; try simp )
      | ((with_reducible refine PreK.intro ?_ ?_); (next => (first | omega | (intros; first | omega | (refine ⟨by omega, ?_⟩; repeat (first | assumption | constructor)) | assumption))); intro _; try simp )
      | fail)
    refine CondK.ff ?_
    try simp 
    try simp 
    refine LoopK.by (fun i : Nat => ⟨[(12, iv i), (11, iv t.length), (10, tabV t), (0, tabV t)], []⟩) (fun i => t.length - i) (fun i => i ≤ t.length ∧ (if (t.drop i).any rowBad = true then (1 : Int) else if t.flatten.Nodup then 0 else 5) = R) 0 (by simpa using hR) (by simp) ?_
    intro i Q' ⟨hi, hc⟩ hq he hr
    try simp 
    refine CondK.intro (fun h1 => ?_) (fun h1 => ?_)
    · simp at h1
      have hel := h.el i
      rw [drop_cons t i h1, List.any_cons] at hc
      rw [show rowBad (el t i) = (decide (el t i = []) || (el t i).any fun x => !okS x) from rfl] at hc
      have hcf := containsFunc_c (el t i) (sbig (by omega)) 82 [] (fun n => !okS n) notS_c (by simp [snapL]) (by simp [AV.refsL]) (by simp [snapOKL])
      generalize ((el t i).any fun x => !okS x) = b at hcf hc
      by_cases h3 : el t i = []
      · simp only [h3, decide_true, Bool.true_or, if_true] at hc
        try simp [h1, h3]
        repeat (refine PreK.intro (by first | omega | (intros; first | omega | (refine ⟨by omega, ?_⟩; simp_all; done) | (simp_all; done) | (simp_all; omega))) fun _ => ?_; (try simp [h1, h3]))
        refine CallG.intro (r := bv true) (fun hh => by cases hh) (by simp) (by simp) ?_
        try simp 
        repeat (refine PreK.intro (by first | omega | (intros; first | omega | (refine ⟨by omega, ?_⟩; simp_all; done) | (simp_all; done) | (simp_all; omega))) fun _ => ?_; (try simp ))
        refine CondK.tt ?_
        try simp 
        apply hr
        simp [hc]
      · have h3' : ¬ (el t i).length = 0 := fun e => h3 (List.eq_nil_of_length_eq_zero e)
        simp only [h3, decide_false, Bool.false_or] at hc
        try simp [h1, h3, h3']
        repeat' (first
          | (refine CallX.pure (hcf) (by simp) (by simp) ?_; try simp [h1, h3, h3'])
          | (refine CallK.intro (hcf) (by simp) (by simp) ?_; try simp [h1, h3, h3'])
          | (refine CallG.intro (fun _ => hcf) (by simp) (by simp) ?_; try simp [h1, h3, h3'])
          | ((with_reducible refine PreK.intro ?_ ?_); (next => (first | omega | (intros; first | omega | (refine ⟨by omega, ?_⟩; repeat (first | assumption | constructor)) | assumption))); intro _; try simp [h1, h3, h3'])
          | fail)
        cases b with
        | true =>
          refine CondK.tt ?_
          try simp 
          apply hr
          simpa using hc
        | false =>
          refine CondK.ff ?_
          try simp 
          repeat (refine PreK.intro (by first | omega | (intros; first | omega | (refine ⟨by omega, ?_⟩; simp_all; done) | (simp_all; done) | (simp_all; omega))) fun _ => ?_; (try simp ))
          exact hq (i + 1) _ ⟨by omega, by simpa using hc⟩ (by omega) (by simp)
    · simp at h1
      rw [List.drop_eq_nil_of_le (by omega)] at hc
      simp only [List.any_nil, Bool.false_eq_true, if_false] at hc
      try simp 
      apply he
      have hcc := concat_o t (by omega) (by omega)
      have hmf : (List.map (List.map iv) t).flatten = List.map iv t.flatten := by rw [List.map_flatten]
      generalize t.flatten = l at hc hfl hcc hmf
      have hs1 := sortI_L l
      have hsl := sortI_len l
      have hs2 := Compact_L (sortI l) (by omega)
      have hcl := clone_o (sortI l) (by omega)
      have hnd := nodup_comp l
      have hcn := compI_num (sortI l)
      generalize sortI l = s at hs1 hsl hs2 hcl hnd hcn
      generalize compI s = u at hs2 hnd hcn
      try simp 
      refine CallX.own (by simpa using hcc) (by simp) (by simp) ?_
      try simp 
      refine CallX.lend [] (id := 25) (ver := 1) (n := l.length) (b := ⟨1, l.map iv, 1, false⟩) [] (.val (.tup [])) _ (by simp) (by simp) (by simp) (by simp) (by simp) (by simp) (by simp) (by simpa using hs1) ?_
      try simp 
      have htk : List.take l.length (List.map iv s) = List.map iv s := List.take_of_length_le (by simp [hsl])
      refine CallX.own (by simpa [htk] using hcl) (by simp [hsl]) (.inr (flat_ivs s)) ?_
      try simp [htk, hsl]
      refine CallX.lend [] (id := 29) (ver := 1) (n := s.length) (b := ⟨1, s.map iv, 1, false⟩) [] (.part u.length) _ (by simp [hsl]) (by simp) (by simp) (by simp) (by simp) (by simp) (by simp) (by simpa using hs2) ?_
      try simp 
      repeat (refine PreK.intro (by first | omega | (intros; first | omega | (refine ⟨by omega, ?_⟩; simp_all; done) | (simp_all; done) | (simp_all; omega))) fun _ => ?_; (try simp ))
      refine CondK.intro (fun h2 => ?_) (fun h2 => ?_)
      · simp at h2
        rw [if_neg (by rw [← hnd]; omega)] at hc
        try simp 
        exact hc
      · simp at h2
        rw [if_pos (by rw [← hnd]; omega)] at hc
        try simp 
        exact hc
theorem lineOf_c (t : Tab) (h : TabOK t) : CallP Tryz.prog 44 [tabV t] (lineV t) := by
  refine C44 (by simp) ?_
  have hn := h.num
  have hp := h.pos
  have hl := h.len
  have hrow : ∀ i, i < t.length → 1 ≤ (el t i).length ∧ (el t i).length ≤ 6 := by
    intro i hi
    have h1 := h.row _ (el_mem_of t i hi)
    have h2 : (el t i).length ≠ 0 := fun e => h1 (List.eq_nil_of_length_eq_zero e)
    have h3 : (el t i).Sublist t.flatten := by
      have : t.flatten = (t.take i).flatten ++ (el t i ++ (t.drop (i + 1)).flatten) := by
        conv => lhs; rw [← List.take_append_drop i t, drop_cons t i hi]
        simp
      rw [this]
      exact (List.sublist_append_left _ _).trans (List.sublist_append_right _ _)
    have := h3.length_le
    omega
  generalize hR : rowsF 0 t = R
  have hRl : R.length ≤ 6 := by rw [← hR, rowsF_len]; exact hl
  unfold lineV
  rw [hR]
  generalize hL : t.flatten = L at hl
  simp [A44]
  refine LoopK.by (ι := Nat × Nat × List Int × Nat × List Int) (fun x => match x.1 with
    | 0 => ⟨[(8, iv (0 : Nat)), (7, iv t.length), (6, tabV t), (3, .pt 3 1 0 0), (2, .pt 2 1 0 0)], [(3, some ⟨2, [.agg [.seq 1 [] true, .seq 1 [] true]], 1, true⟩), (2, some ⟨2, [.agg [.seq 1 [] true, .seq 1 [] true]], 1, true⟩)]⟩
    | k + 1 => ⟨[(8, iv (k + 1 : Nat)), (7, iv t.length), (6, tabV t), (3, .pt 3 1 0 0), (2, .pt 2 1 0 0)], [(3, some ⟨2, [.agg [.sl 16 x.2.1 0 x.2.2.1.length, .sl 25 x.2.2.2.1 0 x.2.2.2.2.length]], 1, true⟩), (16, some ⟨1, x.2.2.1.map iv, x.2.1, false⟩), (25, some ⟨1, x.2.2.2.2.map iv, x.2.2.2.1, false⟩), (2, some ⟨2, [.agg [.seq 1 [] true, .seq 1 [] true]], 1, true⟩)]⟩) (fun x => t.length - x.1)
    (fun x => x.1 ≤ t.length ∧ x.2.2.1 ++ (t.drop x.1).flatten = L ∧ x.2.2.2.2 ++ rowsF x.1 (t.drop x.1) = R ∧ (x.1 = 0 → x.2.2.1 = [] ∧ x.2.2.2.2 = [])) (0, 1, [], 1, []) ⟨Nat.zero_le _, by simpa using hL, by simpa using hR, fun _ => ⟨rfl, rfl⟩⟩ (by simp) ?_
  intro ⟨i, v1, a1, v2, a2⟩ Q' ⟨hi, hc1, hc2, hc3⟩ hq he hr
  dsimp only at hi hc1 hc2 hc3
  have hlen1 := congrArg List.length hc1
  have hlen2 := congrArg List.length hc2
  simp only [List.length_append] at hlen1 hlen2
  cases i with
  | zero =>
    obtain ⟨rfl, rfl⟩ := hc3 rfl
    have h1 : 0 < t.length := by omega
    obtain ⟨r1, r2⟩ := hrow 0 h1
    have hrep := (repeat_o false ((0 : Nat) : Int) (el t 0).length (by omega) (by omega)).toP
    rw [drop_cons t 0 h1, List.flatten_cons] at hc1
    rw [drop_cons t 0 h1, rowsF] at hc2
    try simp 
    refine CondK.intro (fun h2 => ?_) (fun h2 => ?_)
    · repeat (refine PreK.intro (by first | omega | (intros; first | omega | (refine ⟨by omega, ?_⟩; simp_all; done) | (simp_all; done) | (simp_all; omega))) fun _ => ?_; (try simp [h1]))
      refine CallK.intro (by simpa using hrep) (by simp) (by simp) ?_
      try simp [h1]
      repeat (refine PreK.intro (by first | omega | (intros; first | omega | (refine ⟨by omega, ?_⟩; simp_all; done) | (simp_all; done) | (simp_all; omega))) fun _ => ?_; (try simp [h1]))
      exact hq (1, 1, el t 0, 1, List.replicate (el t 0).length 0) _ ⟨by dsimp only; omega, by simpa using hc1, by simpa using hc2, fun h => by cases h⟩ (by dsimp only; omega) (by simp)
    · simp at h2
      simp [h2] at h1
  | succ i =>
    try simp 
    refine CondK.intro (fun h2 => ?_) (fun h2 => ?_)
    · simp at h2
      replace h2 : i + 1 < t.length := by omega
      obtain ⟨r1, r2⟩ := hrow (i + 1) h2
      have hrep := (repeat_o false ((i + 1 : Nat) : Int) (el t (i + 1)).length (by omega) (by omega)).toP
      rw [drop_cons t (i + 1) h2, List.flatten_cons, ← List.append_assoc] at hc1
      rw [drop_cons t (i + 1) h2, rowsF, ← List.append_assoc] at hc2
      repeat (refine PreK.intro (by first | omega | (intros; first | omega | (refine ⟨by omega, ?_⟩; simp_all; done) | (simp_all; done) | (simp_all; omega))) fun _ => ?_; (try simp [h2]))
      refine CallK.intro (by simpa using hrep) (by simp) (by simp) ?_
      try simp [h2]
      repeat (refine PreK.intro (by first | omega | (intros; first | omega | (refine ⟨by omega, ?_⟩; simp_all; done) | (simp_all; done) | (simp_all; omega))) fun _ => ?_; (try simp [h2]))
      exact hq (i + 2, v1 + 1, a1 ++ el t (i + 1), v2 + 1, a2 ++ List.replicate (el t (i + 1)).length ((i + 1 : Nat) : Int)) _ ⟨by dsimp only; omega, hc1, hc2, fun h => by cases h⟩ (by dsimp only; omega) (by simp)
    · simp at h2
      rw [List.drop_eq_nil_of_le (by omega)] at hc1 hc2
      simp only [List.flatten_nil, List.append_nil, rowsF] at hc1 hc2
      subst hc1 hc2
      try simp 
      apply he
      repeat (refine PreK.intro (by first | omega | (intros; first | omega | (refine ⟨by omega, ?_⟩; simp_all; done) | (simp_all; done) | (simp_all; omega))) fun _ => ?_; (try simp ))
end Go.Proofs.YtgfgkfkplidncaaGreat
end
