/- Part 4 of the proof: the value layer and the contracts of the functions that the statement reaches; proved without conditions beyond those each theorem states. -/
import Derived.Test.YtaooenmkofjafaaV3
set_option linter.unusedSimpArgs false
set_option linter.unusedVariables false

section
/- Functions of the cut as the value layer reads them. (written by gen.py) -/
set_option maxRecDepth 20000
namespace Go.Proofs.Ytaooenmkofjafaa
open Go.Abs Go

def A138 : ACode :=
  (.seq (.reg [] [⟨some 2, (.assign (.const (.int .i64 0))), 29, none⟩])
    (.seq (.seq (.reg [] [⟨some 3, (.move (.tmp 0)), 23, none⟩,
      ⟨some 4, (.call ⟨(.builtin .len), #[(.tmp 3)], #[23]⟩), 3, none⟩,
      ⟨some 5, (.binOp .gtr 3 (.tmp 4) (.const (.int .i64 8)) 3), 4, none⟩])
    (.cond (.tmp 5)
    (.seq (.reg [] [⟨some 2, (.assign (.const (.int .i64 3))), 29, none⟩])
    .ret)
    .skip))
    (.seq (.seq (.reg [] [⟨some 6, (.move (.tmp 0)), 23, none⟩,
      ⟨some 7, (.call ⟨(.value (.func 195)), #[(.tmp 6)], #[23]⟩), 4, none⟩,
      ⟨some 8, (.unOp .not 4 (.tmp 7)), 4, none⟩])
    (.cond (.tmp 8)
    (.seq (.reg [] [⟨some 2, (.assign (.const (.int .i64 1))), 29, none⟩])
    .ret)
    .skip))
    (.seq (.reg [] [⟨some 2, (.assign (.const (.int .i64 0))), 29, none⟩])
    .ret))))
theorem C138 {args : List AV} {r : AV} (hn : args.length ≤ 9) (h : vc Try.prog T [] A138 (Fin T [(.tmp 2)] r) ⟨envOf 0 args, []⟩) : CallP Try.prog 138 args r :=
  callP_of tok mixed Try.func138 (by kernel_rfl) (by kernel_rfl) (by kernel_rfl : Try.f138.ntmps = 9) (by kernel_rfl : Try.f138.body.bind (strip 9 (fun _ => [])) = some A138) hn h
def A162 : ACode :=
  (.seq (.reg [] [⟨some 6, (.assign (.const (.int .i64 0))), 29, none⟩])
    (.seq (.seq (.reg [] [⟨some 9, (.move (.tmp 0)), 22, none⟩,
      ⟨some 10, (.call ⟨(.value (.func 84)), #[(.tmp 9)], #[22]⟩), 29, none⟩,
      ⟨some 7, (.assign (.tmp 10)), 29, none⟩])
    (.seq (.reg [] [⟨some 11, (.move (.tmp 7)), 29, none⟩,
      ⟨some 12, (.binOp .neq 29 (.tmp 11) (.const (.int .i64 0)) 29), 4, none⟩])
    (.cond (.tmp 12)
    (.seq (.reg [] [⟨some 13, (.move (.tmp 7)), 29, none⟩,
      ⟨some 6, (.assign (.tmp 13)), 29, none⟩])
    .ret)
    .skip)))
    (.seq (.seq (.reg [] [⟨some 14, (.move (.tmp 1)), 23, none⟩,
      ⟨some 15, (.call ⟨(.value (.func 138)), #[(.tmp 14)], #[23]⟩), 29, none⟩,
      ⟨some 8, (.assign (.tmp 15)), 29, none⟩])
    (.seq (.reg [] [⟨some 16, (.move (.tmp 8)), 29, none⟩,
      ⟨some 17, (.binOp .neq 29 (.tmp 16) (.const (.int .i64 0)) 29), 4, none⟩])
    (.cond (.tmp 17)
    (.seq (.reg [] [⟨some 18, (.move (.tmp 8)), 29, none⟩,
      ⟨some 6, (.assign (.tmp 18)), 29, none⟩])
    .ret)
    .skip)))
    (.seq (.reg [] [⟨some 19, (.move (.tmp 2)), 23, none⟩,
      ⟨some 20, (.call ⟨(.value (.func 138)), #[(.tmp 19)], #[23]⟩), 29, none⟩,
      ⟨some 6, (.assign (.tmp 20)), 29, none⟩])
    .ret))))
theorem C162 {args : List AV} {r : AV} (hn : args.length ≤ 21) (h : vc Try.prog T [] A162 (Fin T [(.tmp 6)] r) ⟨envOf 0 args, []⟩) : CallP Try.prog 162 args r :=
  callP_of tok mixed Try.func162 (by kernel_rfl) (by kernel_rfl) (by kernel_rfl : Try.f162.ntmps = 21) (by kernel_rfl : Try.f162.body.bind (strip 21 (fun _ => [])) = some A162) hn h
def A164 : ACode :=
  (.seq (.reg [] [⟨some 4, (.assign (.const (.slice none 0 0))), 88, none⟩,
      ⟨some 5, (.assign (.const (.slice none 0 0))), 62, none⟩])
    (.seq (.reg [] [⟨some 6, (.assign (.const (.slice none 0 0))), 88, none⟩])
    (.seq (.reg [] [⟨some 7, (.assign (.const (.slice none 0 0))), 62, none⟩])
    (.seq (.seq (.reg [] [⟨some 8, (.assign (.const (.int .i64 0))), 3, none⟩])
    (.block 0 (.loop (.seq (.seq (.reg [] [⟨some 12, (.move (.tmp 8)), 3, none⟩,
      ⟨some 13, (.move (.tmp 0)), 22, none⟩,
      ⟨some 14, (.call ⟨(.builtin .len), #[(.tmp 13)], #[22]⟩), 3, none⟩,
      ⟨some 15, (.binOp .lss 3 (.tmp 12) (.tmp 14) 3), 4, none⟩])
    (.cond (.tmp 15)
    .skip
    (.exit 0)))
    (.seq (.block 1 (.seq (.reg [] [⟨some 9, (.assign (.const (.int .i64 0))), 3, none⟩])
    (.block 2 (.loop (.seq (.seq (.reg [] [⟨some 18, (.move (.tmp 9)), 3, none⟩,
      ⟨some 19, (.move (.tmp 1)), 23, none⟩,
      ⟨some 20, (.call ⟨(.builtin .len), #[(.tmp 19)], #[23]⟩), 3, none⟩,
      ⟨some 21, (.binOp .leq 3 (.tmp 18) (.tmp 20) 3), 4, none⟩])
    (.cond (.tmp 21)
    .skip
    (.exit 2)))
    (.seq (.block 3 (.seq (.reg [] [⟨some 25, (.move (.tmp 0)), 22, none⟩,
      ⟨some 26, (.move (.tmp 8)), 3, none⟩,
      ⟨some 27, (.indexAddr 22 (.tmp 25) (.tmp 26)), 0, none⟩,
      ⟨some 28, (.load 72 (.tmp 27)), 72, none⟩,
      ⟨some 29, (.move (.tmp 1)), 23, none⟩,
      ⟨some 30, (.move (.tmp 9)), 3, none⟩,
      ⟨some 31, (.call ⟨(.value (.func 177)), #[(.tmp 28), (.tmp 29), (.tmp 30)], #[72, 23, 3]⟩), 32, none⟩,
      ⟨some 24, (.move (.tmp 31)), 32, none⟩,
      ⟨some 32, (.extract (.tmp 24) 0), 23, none⟩,
      ⟨some 33, (.extract (.tmp 24) 1), 29, none⟩,
      ⟨some 10, (.assign (.tmp 32)), 23, none⟩,
      ⟨some 11, (.assign (.tmp 33)), 29, none⟩])
    (.seq (.reg [] [⟨some 34, (.move (.tmp 11)), 29, none⟩,
      ⟨some 35, (.binOp .eql 29 (.tmp 34) (.const (.int .i64 0)) 29), 4, none⟩])
    (.cond (.tmp 35)
    (.seq (.reg [] [⟨some 36, (.move (.tmp 6)), 88, none⟩,
      ⟨some 37, (.move (.tmp 8)), 3, none⟩,
      ⟨some 38, (.move (.tmp 9)), 3, none⟩,
      ⟨some 39, (.build 46 #[(0, (.tmp 37)), (1, (.tmp 38))]), 46, none⟩,
      ⟨some 40, (.buildSlice 88 1 #[(0, (.tmp 39))]), 88, none⟩,
      ⟨some 41, (.call ⟨(.builtin .append), #[(.tmp 36), (.tmp 40)], #[88, 88]⟩), 88, none⟩,
      ⟨some 6, (.assign (.tmp 41)), 88, none⟩])
    (.reg [] [⟨some 42, (.move (.tmp 7)), 62, none⟩,
      ⟨some 43, (.move (.tmp 10)), 23, none⟩,
      ⟨some 44, (.buildSlice 62 1 #[(0, (.tmp 43))]), 62, none⟩,
      ⟨some 45, (.call ⟨(.builtin .append), #[(.tmp 42), (.tmp 44)], #[62, 62]⟩), 62, none⟩,
      ⟨some 7, (.assign (.tmp 45)), 62, none⟩]))
    .skip))))
    (.reg [] [⟨some 22, (.move (.tmp 9)), 3, none⟩,
      ⟨some 23, (.binOp .add 3 (.tmp 22) (.const (.int .i64 1)) 3), 3, none⟩,
      ⟨some 9, (.assign (.tmp 23)), 3, none⟩])))))))
    (.reg [] [⟨some 16, (.move (.tmp 8)), 3, none⟩,
      ⟨some 17, (.binOp .add 3 (.tmp 16) (.const (.int .i64 1)) 3), 3, none⟩,
      ⟨some 8, (.assign (.tmp 17)), 3, none⟩]))))))
    (.seq (.reg [] [⟨some 46, (.move (.tmp 6)), 88, none⟩,
      ⟨some 47, (.move (.tmp 7)), 62, none⟩,
      ⟨some 4, (.assign (.tmp 46)), 88, none⟩,
      ⟨some 5, (.assign (.tmp 47)), 62, none⟩])
    .ret)))))
theorem C164 {args : List AV} {r : AV} (hn : args.length ≤ 48) (h : vc Try.prog T [] A164 (Fin T [(.tmp 4), (.tmp 5)] r) ⟨envOf 0 args, []⟩) : CallP Try.prog 164 args r :=
  callP_of tok mixed Try.func164 (by kernel_rfl) (by kernel_rfl) (by kernel_rfl : Try.f164.ntmps = 48) (by kernel_rfl : Try.f164.body.bind (strip 48 (fun _ => [])) = some A164) hn h
def A165 : ACode :=
  (.seq (.reg [] [⟨some 1, (.box 72 (.tmp 0)), 0, none⟩,
      ⟨some 2, (.assign (.const (.int .i64 0))), 29, none⟩])
    (.seq (.seq (.reg [] [⟨some 3, (.fieldAddr 72 (.tmp 1) 0), 0, none⟩,
      ⟨some 4, (.load 3 (.tmp 3)), 3, none⟩,
      ⟨some 5, (.call ⟨(.value (.func 213)), #[(.tmp 4), (.const (.int .i64 (-1))), (.const (.int .i64 5))], #[3, 3, 3]⟩), 4, none⟩,
      ⟨some 6, (.unOp .not 4 (.tmp 5)), 4, none⟩])
    (.cond (.tmp 6)
    (.seq (.reg [] [⟨some 2, (.assign (.const (.int .i64 1))), 29, none⟩])
    .ret)
    .skip))
    (.seq (.seq (.reg [] [⟨some 7, (.fieldAddr 72 (.tmp 1) 1), 0, none⟩,
      ⟨some 8, (.load 23 (.tmp 7)), 23, none⟩,
      ⟨some 9, (.call ⟨(.builtin .len), #[(.tmp 8)], #[23]⟩), 3, none⟩,
      ⟨some 10, (.binOp .gtr 3 (.tmp 9) (.const (.int .i64 2)) 3), 4, none⟩])
    (.cond (.tmp 10)
    (.seq (.reg [] [⟨some 2, (.assign (.const (.int .i64 3))), 29, none⟩])
    .ret)
    .skip))
    (.seq (.seq (.reg [] [⟨some 11, (.fieldAddr 72 (.tmp 1) 1), 0, none⟩,
      ⟨some 12, (.load 23 (.tmp 11)), 23, none⟩,
      ⟨some 13, (.call ⟨(.value (.func 195)), #[(.tmp 12)], #[23]⟩), 4, none⟩,
      ⟨some 14, (.unOp .not 4 (.tmp 13)), 4, none⟩,
      ⟨some 15, (.move (.tmp 14)), 4, none⟩,
      ⟨some 16, (.fieldAddr 72 (.tmp 1) 2), 0, some (15, false)⟩,
      ⟨some 17, (.load 23 (.tmp 16)), 23, some (15, false)⟩,
      ⟨some 18, (.call ⟨(.value (.func 214)), #[(.tmp 17), (.const (.int .i64 (-1))), (.const (.int .i64 5))], #[23, 3, 3]⟩), 4, some (15, false)⟩,
      ⟨some 19, (.unOp .not 4 (.tmp 18)), 4, some (15, false)⟩,
      ⟨some 20, (.pick (.tmp 15) (.const (.bool true)) (.tmp 19)), 4, none⟩,
      ⟨some 21, (.move (.tmp 20)), 4, none⟩,
      ⟨some 22, (.fieldAddr 72 (.tmp 1) 3), 0, some (21, false)⟩,
      ⟨some 23, (.load 23 (.tmp 22)), 23, some (21, false)⟩,
      ⟨some 24, (.call ⟨(.value (.func 214)), #[(.tmp 23), (.const (.int .i64 (-1))), (.const (.int .i64 5))], #[23, 3, 3]⟩), 4, some (21, false)⟩,
      ⟨some 25, (.unOp .not 4 (.tmp 24)), 4, some (21, false)⟩,
      ⟨some 26, (.pick (.tmp 21) (.const (.bool true)) (.tmp 25)), 4, none⟩])
    (.cond (.tmp 26)
    (.seq (.reg [] [⟨some 2, (.assign (.const (.int .i64 1))), 29, none⟩])
    .ret)
    .skip))
    (.seq (.seq (.draw [] [⟨some 27, (.fieldAddr 72 (.tmp 1) 0), 0, none⟩,
      ⟨some 28, (.load 3 (.tmp 27)), 3, none⟩,
      ⟨some 29, (.binOp .lss 3 (.tmp 28) (.const (.int .i64 0)) 3), 4, none⟩,
      ⟨some 30, (.move (.tmp 29)), 4, none⟩,
      ⟨some 31, (.fieldAddr 72 (.tmp 1) 1), 0, some (30, true)⟩,
      ⟨some 32, (.load 23 (.tmp 31)), 23, some (30, true)⟩,
      ⟨some 33, (.call ⟨(.builtin .len), #[(.tmp 32)], #[23]⟩), 3, some (30, true)⟩,
      ⟨some 34, (.binOp .eql 3 (.tmp 33) (.const (.int .i64 0)) 3), 4, some (30, true)⟩,
      ⟨some 35, (.pick (.tmp 30) (.tmp 34) (.const (.bool false))), 4, none⟩,
      ⟨some 36, (.move (.tmp 35)), 4, none⟩,
      ⟨some 37, (.fieldAddr 72 (.tmp 1) 1), 0, some (36, false)⟩,
      ⟨some 38, (.load 23 (.tmp 37)), 23, some (36, false)⟩,
      ⟨some 39, (.call ⟨(.builtin .len), #[(.tmp 38)], #[23]⟩), 3, some (36, false)⟩,
      ⟨some 40, (.binOp .eql 3 (.tmp 39) (.const (.int .i64 1)) 3), 4, some (36, false)⟩,
      ⟨some 41, (.move (.tmp 40)), 4, some (36, false)⟩,
      ⟨some 42, (.fieldAddr 72 (.tmp 1) 1), 0, some (41, true)⟩,
      ⟨some 43, (.load 23 (.tmp 42)), 23, some (41, true)⟩,
      ⟨some 44, (.indexAddr 23 (.tmp 43) (.const (.int .i64 0))), 0, some (41, true)⟩,
      ⟨some 45, (.load 3 (.tmp 44)), 3, some (41, true)⟩,
      ⟨some 46, (.fieldAddr 72 (.tmp 1) 0), 0, some (41, true)⟩,
      ⟨some 47, (.load 3 (.tmp 46)), 3, some (41, true)⟩,
      ⟨some 48, (.binOp .eql 3 (.tmp 45) (.tmp 47) 3), 4, some (41, true)⟩,
      ⟨some 49, (.pick (.tmp 41) (.tmp 48) (.const (.bool false))), 4, some (36, false)⟩,
      ⟨some 50, (.pick (.tmp 36) (.const (.bool true)) (.tmp 49)), 4, none⟩] [(15, 19), (16, 19), (17, 19), (18, 19), (15, 20), (16, 20), (17, 20), (18, 20)])
    (.cond (.tmp 50)
    (.seq (.reg [] [⟨some 2, (.assign (.const (.int .i64 6))), 29, none⟩])
    .ret)
    .skip))
    (.seq (.reg [] [⟨some 2, (.assign (.const (.int .i64 0))), 29, none⟩])
    .ret))))))
theorem C165 {args : List AV} {r : AV} (hn : args.length ≤ 51) (h : vc Try.prog T [] A165 (Fin T [(.tmp 2)] r) ⟨envOf 0 args, []⟩) : CallP Try.prog 165 args r :=
  callP_of tok mixed Try.func165 (by kernel_rfl) (by kernel_rfl) (by kernel_rfl : Try.f165.ntmps = 51) (by kernel_rfl : Try.f165.body.bind (strip 51 (fun _ => [])) = some A165) hn h
def A177 : ACode :=
  (.seq (.reg [] [⟨some 3, (.box 72 (.tmp 0)), 0, none⟩,
      ⟨some 6, (.assign (.const (.slice none 0 0))), 23, none⟩,
      ⟨some 7, (.assign (.const (.int .i64 0))), 29, none⟩])
    (.seq (.seq (.reg [] [⟨some 9, (.load 72 (.tmp 3)), 72, none⟩,
      ⟨some 10, (.move (.tmp 1)), 23, none⟩,
      ⟨some 11, (.call ⟨(.value (.func 217)), #[(.tmp 9), (.tmp 10)], #[72, 23]⟩), 29, none⟩,
      ⟨some 8, (.assign (.tmp 11)), 29, none⟩])
    (.seq (.reg [] [⟨some 12, (.move (.tmp 8)), 29, none⟩,
      ⟨some 13, (.binOp .neq 29 (.tmp 12) (.const (.int .i64 0)) 29), 4, none⟩])
    (.cond (.tmp 13)
    (.seq (.reg [] [⟨some 14, (.move (.tmp 8)), 29, none⟩,
      ⟨some 6, (.assign (.const (.slice none 0 0))), 23, none⟩,
      ⟨some 7, (.assign (.tmp 14)), 29, none⟩])
    .ret)
    .skip)))
    (.seq (.seq (.reg [] [⟨some 15, (.load 72 (.tmp 3)), 72, none⟩,
      ⟨some 16, (.move (.tmp 1)), 23, none⟩,
      ⟨some 17, (.move (.tmp 2)), 3, none⟩,
      ⟨some 18, (.call ⟨(.value (.func 218)), #[(.tmp 15), (.tmp 16), (.tmp 17)], #[72, 23, 3]⟩), 4, none⟩,
      ⟨some 19, (.unOp .not 4 (.tmp 18)), 4, none⟩])
    (.cond (.tmp 19)
    (.seq (.reg [] [⟨some 6, (.assign (.const (.slice none 0 0))), 23, none⟩,
      ⟨some 7, (.assign (.const (.int .i64 6))), 29, none⟩])
    .ret)
    .skip))
    (.seq (.reg [] [⟨some 20, (.load 72 (.tmp 3)), 72, none⟩,
      ⟨some 21, (.move (.tmp 1)), 23, none⟩,
      ⟨some 22, (.move (.tmp 2)), 3, none⟩,
      ⟨some 23, (.call ⟨(.value (.func 220)), #[(.tmp 20), (.tmp 21), (.tmp 22)], #[72, 23, 3]⟩), 23, none⟩,
      ⟨some 24, (.call ⟨(.value (.func 219)), #[(.tmp 23)], #[23]⟩), 32, none⟩,
      ⟨some 25, (.extract (.tmp 24) 0), 23, none⟩,
      ⟨some 26, (.extract (.tmp 24) 1), 29, none⟩,
      ⟨some 6, (.assign (.tmp 25)), 23, none⟩,
      ⟨some 7, (.assign (.tmp 26)), 29, none⟩])
    .ret))))
theorem C177 {args : List AV} {r : AV} (hn : args.length ≤ 27) (h : vc Try.prog T [] A177 (Fin T [(.tmp 6), (.tmp 7)] r) ⟨envOf 0 args, []⟩) : CallP Try.prog 177 args r :=
  callP_of tok mixed Try.func177 (by kernel_rfl) (by kernel_rfl) (by kernel_rfl : Try.f177.ntmps = 27) (by kernel_rfl : Try.f177.body.bind (strip 27 (fun _ => [])) = some A177) hn h
def A183 : ACode :=
  (.seq (.reg [] [⟨some 5, (.box 46 (.tmp 2)), 0, none⟩,
      ⟨some 6, (.assign (.const (.slice none 0 0))), 23, none⟩])
    (.seq (.draw [] [⟨some 10, (.move (.tmp 0)), 22, none⟩,
      ⟨some 11, (.fieldAddr 46 (.tmp 5) 0), 0, none⟩,
      ⟨some 12, (.load 3 (.tmp 11)), 3, none⟩,
      ⟨some 13, (.indexAddr 22 (.tmp 10) (.tmp 12)), 0, none⟩,
      ⟨some 14, (.load 72 (.tmp 13)), 72, none⟩,
      ⟨some 15, (.move (.tmp 1)), 23, none⟩,
      ⟨some 16, (.fieldAddr 46 (.tmp 5) 1), 0, none⟩,
      ⟨some 17, (.load 3 (.tmp 16)), 3, none⟩,
      ⟨some 18, (.call ⟨(.value (.func 177)), #[(.tmp 14), (.tmp 15), (.tmp 17)], #[72, 23, 3]⟩), 32, none⟩,
      ⟨some 9, (.move (.tmp 18)), 32, none⟩,
      ⟨some 19, (.extract (.tmp 9) 0), 23, none⟩,
      ⟨some 20, (.extract (.tmp 9) 1), 29, none⟩,
      ⟨some 7, (.assign (.tmp 19)), 23, none⟩,
      ⟨some 8, (.assign (.tmp 20)), 29, none⟩] [(0, 1), (0, 2), (0, 5), (1, 5), (2, 5), (3, 5), (4, 5), (0, 6), (1, 6), (2, 6), (3, 6), (4, 6), (5, 6), (0, 7), (1, 7), (2, 7), (3, 7), (4, 7), (5, 7), (10, 11), (11, 12)])
    (.seq (.reg [] [⟨some 21, (.move (.tmp 7)), 23, none⟩,
      ⟨some 6, (.assign (.tmp 21)), 23, none⟩])
    .ret)))
theorem C183 {args : List AV} {r : AV} (hn : args.length ≤ 22) (h : vc Try.prog T [] A183 (Fin T [(.tmp 6)] r) ⟨envOf 0 args, []⟩) : CallP Try.prog 183 args r :=
  callP_of tok mixed Try.func183 (by kernel_rfl) (by kernel_rfl) (by kernel_rfl : Try.f183.ntmps = 22) (by kernel_rfl : Try.f183.body.bind (strip 22 (fun _ => [])) = some A183) hn h
def A184 : ACode :=
  (.seq (.reg [] [⟨some 4, (.assign (.const (.int .i64 0))), 3, none⟩])
    (.seq (.seq (.reg [] [⟨some 6, (.move (.tmp 0)), 117, none⟩,
      ⟨some 7, (.call ⟨(.builtin .len), #[(.tmp 6)], #[117]⟩), 3, none⟩,
      ⟨some 8, (.move (.const (.int .i64 0))), 3, none⟩])
    (.block 0 (.loop (.seq (.reg [] [⟨some 9, (.binOp .lss 3 (.tmp 8) (.tmp 7) 3), 0, none⟩])
    (.seq (.cond (.tmp 9)
    .skip
    (.exit 0))
    (.seq (.block 1 (.seq (.reg [] [⟨some 10, (.move (.tmp 8)), 3, none⟩,
      ⟨some 5, (.assign (.tmp 10)), 3, none⟩])
    (.seq (.reg [] [⟨some 11, (.move (.tmp 1)), 191, none⟩,
      ⟨some 12, (.move (.tmp 0)), 117, none⟩,
      ⟨some 13, (.move (.tmp 5)), 3, none⟩,
      ⟨some 14, (.indexAddr 117 (.tmp 12) (.tmp 13)), 0, none⟩,
      ⟨some 15, (.load 120 (.tmp 14)), 120, none⟩,
      ⟨some 16, (.call ⟨(.value (.tmp 11)), #[(.tmp 15)], #[120]⟩), 4, none⟩])
    (.cond (.tmp 16)
    (.seq (.reg [] [⟨some 17, (.move (.tmp 5)), 3, none⟩,
      ⟨some 4, (.assign (.tmp 17)), 3, none⟩])
    .ret)
    .skip))))
    (.reg [] [⟨some 18, (.binOp .add 3 (.tmp 8) (.const (.int .i64 1)) 3), 3, none⟩,
      ⟨some 8, (.move (.tmp 18)), 3, none⟩])))))))
    (.seq (.reg [] [⟨some 4, (.assign (.const (.int .i64 (-1)))), 3, none⟩])
    .ret)))
theorem C184 {args : List AV} {r : AV} (hn : args.length ≤ 19) (h : vc Try.prog T [] A184 (Fin T [(.tmp 4)] r) ⟨envOf 0 args, []⟩) : CallP Try.prog 184 args r :=
  callP_of tok mixed Try.func184 (by kernel_rfl) (by kernel_rfl) (by kernel_rfl : Try.f184.ntmps = 19) (by kernel_rfl : Try.f184.body.bind (strip 19 (fun _ => [])) = some A184) hn h
def A185 : ACode :=
  (.seq (.reg [] [⟨some 2, (.box 120 (.tmp 0)), 0, none⟩,
      ⟨some 3, (.assign (.const (.bool false))), 4, none⟩])
    (.seq (.reg [] [⟨some 4, (.fieldAddr 120 (.tmp 2) 0), 0, none⟩,
      ⟨some 5, (.load 46 (.tmp 4)), 46, none⟩,
      ⟨some 6, (.fieldAddr 120 (.tmp 1) 0), 0, none⟩,
      ⟨some 7, (.load 46 (.tmp 6)), 46, none⟩,
      ⟨some 8, (.binOp .neq 46 (.tmp 5) (.tmp 7) 46), 4, none⟩,
      ⟨some 3, (.assign (.tmp 8)), 4, none⟩])
    .ret))
theorem C185 {args : List AV} {r : AV} (hn : args.length ≤ 9) (h : vc Try.prog T [] A185 (Fin T [(.tmp 3)] r) ⟨envOf 0 args, []⟩) : CallP Try.prog 185 args r :=
  callP_of tok mixed Try.func185 (by kernel_rfl) (by kernel_rfl) (by kernel_rfl : Try.f185.ntmps = 9) (by kernel_rfl : Try.f185.body.bind (strip 9 (fun _ => [])) = some A185) hn h
def A188 : ACode :=
  (.seq (.reg [] [⟨some 0, (.alloc 195), 0, none⟩])
    (.seq (.reg [] [⟨some 1, (.build 194 #[(0, (.func 221))]), 194, none⟩,
      ⟨some 2, (.build 194 #[(0, (.func 223))]), 194, none⟩,
      ⟨some 3, (.build 194 #[(0, (.func 224))]), 194, none⟩,
      ⟨some 4, (.build 194 #[(0, (.func 225))]), 194, none⟩,
      ⟨some 5, (.build 195 #[(0, (.tmp 1)), (1, (.tmp 2)), (2, (.tmp 3)), (3, (.tmp 4))]), 195, none⟩,
      ⟨none, (.store 195 (.tmp 0) (.tmp 5)), 0, none⟩])
    .ret))
theorem C188 {args : List AV} {r : AV} (hn : args.length ≤ 6) (h : vc Try.prog T [] A188 (Fin T [(.cell 0 195)] r) ⟨envOf 0 args, []⟩) : CallP Try.prog 188 args r :=
  callP_of tok mixed Try.func188 (by kernel_rfl) (by kernel_rfl) (by kernel_rfl : Try.f188.ntmps = 6) (by kernel_rfl : Try.f188.body.bind (strip 6 (fun _ => [])) = some A188) hn h
def A189 : ACode :=
  (.seq (.reg [] [⟨some 8, (.box 46 (.tmp 3)), 0, none⟩,
      ⟨some 9, (.box 46 (.tmp 4)), 0, none⟩,
      ⟨some 10, (.assign (.const (.bool false))), 4, none⟩])
    (.seq (.seq (.reg [] [⟨some 15, (.move (.tmp 2)), 3, none⟩])
    (.block 0 (.seq (.reg [] [⟨some 17, (.binOp .eql 3 (.tmp 15) (.const (.int .i64 1)) 3), 4, none⟩,
      ⟨some 16, (.assign (.tmp 17)), 4, none⟩])
    (.cond (.tmp 16)
    (.seq (.draw [] [⟨some 19, (.move (.tmp 0)), 22, none⟩,
      ⟨some 20, (.fieldAddr 46 (.tmp 8) 0), 0, none⟩,
      ⟨some 21, (.load 3 (.tmp 20)), 3, none⟩,
      ⟨some 22, (.indexAddr 22 (.tmp 19) (.tmp 21)), 0, none⟩,
      ⟨some 23, (.load 72 (.tmp 22)), 72, none⟩,
      ⟨some 24, (.move (.tmp 0)), 22, none⟩,
      ⟨some 25, (.fieldAddr 46 (.tmp 9) 0), 0, none⟩,
      ⟨some 26, (.load 3 (.tmp 25)), 3, none⟩,
      ⟨some 27, (.indexAddr 22 (.tmp 24) (.tmp 26)), 0, none⟩,
      ⟨some 28, (.load 72 (.tmp 27)), 72, none⟩,
      ⟨some 29, (.call ⟨(.value (.func 226)), #[(.tmp 23), (.tmp 28)], #[72, 72]⟩), 40, none⟩,
      ⟨some 18, (.move (.tmp 29)), 40, none⟩,
      ⟨some 30, (.extract (.tmp 18) 0), 4, none⟩,
      ⟨some 31, (.extract (.tmp 18) 1), 29, none⟩,
      ⟨some 11, (.assign (.tmp 30)), 4, none⟩,
      ⟨some 12, (.assign (.tmp 31)), 29, none⟩] [(0, 1), (0, 2), (0, 5), (1, 5), (2, 5), (3, 5), (4, 5), (0, 6), (1, 6), (2, 6), (3, 6), (4, 6), (5, 6), (0, 7), (1, 7), (2, 7), (3, 7), (4, 7), (5, 7), (0, 8), (1, 8), (2, 8), (3, 8), (4, 8), (0, 9), (1, 9), (2, 9), (3, 9), (4, 9), (12, 13), (13, 14)])
    (.seq (.draw [] [⟨some 33, (.move (.tmp 0)), 22, none⟩,
      ⟨some 34, (.fieldAddr 46 (.tmp 9) 0), 0, none⟩,
      ⟨some 35, (.load 3 (.tmp 34)), 3, none⟩,
      ⟨some 36, (.indexAddr 22 (.tmp 33) (.tmp 35)), 0, none⟩,
      ⟨some 37, (.load 72 (.tmp 36)), 72, none⟩,
      ⟨some 38, (.move (.tmp 0)), 22, none⟩,
      ⟨some 39, (.fieldAddr 46 (.tmp 8) 0), 0, none⟩,
      ⟨some 40, (.load 3 (.tmp 39)), 3, none⟩,
      ⟨some 41, (.indexAddr 22 (.tmp 38) (.tmp 40)), 0, none⟩,
      ⟨some 42, (.load 72 (.tmp 41)), 72, none⟩,
      ⟨some 43, (.call ⟨(.value (.func 226)), #[(.tmp 37), (.tmp 42)], #[72, 72]⟩), 40, none⟩,
      ⟨some 32, (.move (.tmp 43)), 40, none⟩,
      ⟨some 44, (.extract (.tmp 32) 0), 4, none⟩,
      ⟨some 45, (.extract (.tmp 32) 1), 29, none⟩,
      ⟨some 13, (.assign (.tmp 44)), 4, none⟩,
      ⟨some 14, (.assign (.tmp 45)), 29, none⟩] [(0, 1), (0, 2), (0, 5), (1, 5), (2, 5), (3, 5), (4, 5), (0, 6), (1, 6), (2, 6), (3, 6), (4, 6), (5, 6), (0, 7), (1, 7), (2, 7), (3, 7), (4, 7), (5, 7), (0, 8), (1, 8), (2, 8), (3, 8), (4, 8), (0, 9), (1, 9), (2, 9), (3, 9), (4, 9), (12, 13), (13, 14)])
    (.seq (.reg [] [⟨some 46, (.fieldAddr 46 (.tmp 8) 1), 0, none⟩,
      ⟨some 47, (.load 3 (.tmp 46)), 3, none⟩,
      ⟨some 48, (.fieldAddr 46 (.tmp 9) 1), 0, none⟩,
      ⟨some 49, (.load 3 (.tmp 48)), 3, none⟩,
      ⟨some 50, (.binOp .eql 3 (.tmp 47) (.tmp 49) 3), 4, none⟩,
      ⟨some 51, (.move (.tmp 50)), 4, none⟩,
      ⟨some 52, (.move (.tmp 11)), 4, some (51, true)⟩,
      ⟨some 53, (.pick (.tmp 51) (.tmp 52) (.const (.bool false))), 4, none⟩,
      ⟨some 54, (.move (.tmp 53)), 4, none⟩,
      ⟨some 55, (.move (.tmp 13)), 4, some (54, true)⟩,
      ⟨some 56, (.unOp .not 4 (.tmp 55)), 4, some (54, true)⟩,
      ⟨some 57, (.pick (.tmp 54) (.tmp 56) (.const (.bool false))), 4, none⟩,
      ⟨some 10, (.assign (.tmp 57)), 4, none⟩])
    .ret)))
    (.seq (.reg [] [⟨some 59, (.binOp .eql 3 (.tmp 15) (.const (.int .i64 2)) 3), 4, none⟩,
      ⟨some 58, (.assign (.tmp 59)), 4, none⟩])
    (.cond (.tmp 58)
    (.seq (.reg [] [⟨some 60, (.move (.tmp 0)), 22, none⟩,
      ⟨some 61, (.move (.tmp 1)), 23, none⟩,
      ⟨some 62, (.load 46 (.tmp 8)), 46, none⟩,
      ⟨some 63, (.load 46 (.tmp 9)), 46, none⟩,
      ⟨some 64, (.call ⟨(.value (.func 122)), #[(.tmp 60), (.tmp 61), (.tmp 62), (.tmp 63)], #[22, 23, 46, 46]⟩), 4, none⟩,
      ⟨some 65, (.move (.tmp 64)), 4, none⟩,
      ⟨some 66, (.move (.tmp 0)), 22, some (65, true)⟩,
      ⟨some 67, (.move (.tmp 1)), 23, some (65, true)⟩,
      ⟨some 68, (.load 46 (.tmp 9)), 46, some (65, true)⟩,
      ⟨some 69, (.load 46 (.tmp 8)), 46, some (65, true)⟩,
      ⟨some 70, (.call ⟨(.value (.func 122)), #[(.tmp 66), (.tmp 67), (.tmp 68), (.tmp 69)], #[22, 23, 46, 46]⟩), 4, some (65, true)⟩,
      ⟨some 71, (.unOp .not 4 (.tmp 70)), 4, some (65, true)⟩,
      ⟨some 72, (.pick (.tmp 65) (.tmp 71) (.const (.bool false))), 4, none⟩,
      ⟨some 10, (.assign (.tmp 72)), 4, none⟩])
    .ret)
    (.seq (.reg [] [⟨some 74, (.binOp .eql 3 (.tmp 15) (.const (.int .i64 3)) 3), 4, none⟩,
      ⟨some 73, (.assign (.tmp 74)), 4, none⟩])
    (.cond (.tmp 73)
    (.seq (.reg [] [⟨some 75, (.fieldAddr 46 (.tmp 8) 1), 0, none⟩,
      ⟨some 76, (.load 3 (.tmp 75)), 3, none⟩,
      ⟨some 77, (.fieldAddr 46 (.tmp 9) 1), 0, none⟩,
      ⟨some 78, (.load 3 (.tmp 77)), 3, none⟩,
      ⟨some 79, (.binOp .lss 3 (.tmp 76) (.tmp 78) 3), 4, none⟩,
      ⟨some 10, (.assign (.tmp 79)), 4, none⟩])
    .ret)
    .skip))))))))
    (.seq (.reg [] [⟨some 80, (.fieldAddr 46 (.tmp 8) 0), 0, none⟩,
      ⟨some 81, (.load 3 (.tmp 80)), 3, none⟩,
      ⟨some 82, (.fieldAddr 46 (.tmp 9) 0), 0, none⟩,
      ⟨some 83, (.load 3 (.tmp 82)), 3, none⟩,
      ⟨some 84, (.binOp .gtr 3 (.tmp 81) (.tmp 83) 3), 4, none⟩,
      ⟨some 10, (.assign (.tmp 84)), 4, none⟩])
    .ret)))
theorem C189 {args : List AV} {r : AV} (hn : args.length ≤ 85) (h : vc Try.prog T [] A189 (Fin T [(.tmp 10)] r) ⟨envOf 0 args, []⟩) : CallP Try.prog 189 args r :=
  callP_of tok mixed Try.func189 (by kernel_rfl) (by kernel_rfl) (by kernel_rfl : Try.f189.ntmps = 85) (by kernel_rfl : Try.f189.body.bind (strip 85 (fun _ => [])) = some A189) hn h
def A190 : ACode :=
  (.seq (.reg [] [⟨some 4, (.assign (.const (.slice none 0 0))), 23, none⟩])
    (.seq (.reg [] [⟨some 8, (.move (.tmp 0)), 23, none⟩,
      ⟨some 9, (.move (.tmp 1)), 139, none⟩,
      ⟨some 10, (.call ⟨(.value (.func 192)), #[(.tmp 8), (.tmp 9)], #[23, 139]⟩), 3, none⟩,
      ⟨some 5, (.assign (.tmp 10)), 3, none⟩])
    (.seq (.seq (.reg [] [⟨some 11, (.move (.tmp 5)), 3, none⟩,
      ⟨some 12, (.binOp .eql 3 (.tmp 11) (.const (.int .i64 (-1))) 3), 4, none⟩])
    (.cond (.tmp 12)
    (.seq (.reg [] [⟨some 13, (.move (.tmp 0)), 23, none⟩,
      ⟨some 4, (.assign (.tmp 13)), 23, none⟩])
    .ret)
    .skip))
    (.seq (.seq (.reg [] [⟨some 14, (.move (.tmp 5)), 3, none⟩,
      ⟨some 15, (.binOp .add 3 (.tmp 14) (.const (.int .i64 1)) 3), 3, none⟩,
      ⟨some 6, (.assign (.tmp 15)), 3, none⟩])
    (.block 0 (.loop (.seq (.seq (.reg [] [⟨some 16, (.move (.tmp 6)), 3, none⟩,
      ⟨some 17, (.move (.tmp 0)), 23, none⟩,
      ⟨some 18, (.call ⟨(.builtin .len), #[(.tmp 17)], #[23]⟩), 3, none⟩,
      ⟨some 19, (.binOp .lss 3 (.tmp 16) (.tmp 18) 3), 4, none⟩])
    (.cond (.tmp 19)
    .skip
    (.exit 0)))
    (.seq (.block 1 (.seq (.reg [] [⟨some 22, (.move (.tmp 0)), 23, none⟩,
      ⟨some 23, (.move (.tmp 6)), 3, none⟩,
      ⟨some 24, (.indexAddr 23 (.tmp 22) (.tmp 23)), 0, none⟩,
      ⟨some 25, (.load 3 (.tmp 24)), 3, none⟩,
      ⟨some 7, (.assign (.tmp 25)), 3, none⟩])
    (.seq (.reg [] [⟨some 26, (.move (.tmp 1)), 139, none⟩,
      ⟨some 27, (.move (.tmp 7)), 3, none⟩,
      ⟨some 28, (.call ⟨(.value (.tmp 26)), #[(.tmp 27)], #[3]⟩), 4, none⟩,
      ⟨some 29, (.unOp .not 4 (.tmp 28)), 4, none⟩])
    (.cond (.tmp 29)
    (.seq (.reg [] [⟨some 30, (.move (.tmp 0)), 23, none⟩,
      ⟨some 31, (.move (.tmp 5)), 3, none⟩,
      ⟨some 32, (.move (.tmp 7)), 3, none⟩,
      ⟨some 33, (.indexAddr 23 (.tmp 30) (.tmp 31)), 0, none⟩,
      ⟨none, (.store 3 (.tmp 33) (.tmp 32)), 0, none⟩])
    (.reg [] [⟨some 34, (.move (.tmp 5)), 3, none⟩,
      ⟨some 35, (.binOp .add 3 (.tmp 34) (.const (.int .i64 1)) 3), 3, none⟩,
      ⟨some 5, (.assign (.tmp 35)), 3, none⟩]))
    .skip))))
    (.reg [] [⟨some 20, (.move (.tmp 6)), 3, none⟩,
      ⟨some 21, (.binOp .add 3 (.tmp 20) (.const (.int .i64 1)) 3), 3, none⟩,
      ⟨some 6, (.assign (.tmp 21)), 3, none⟩]))))))
    (.seq (.reg [] [⟨some 36, (.move (.tmp 0)), 23, none⟩,
      ⟨some 37, (.move (.tmp 5)), 3, none⟩,
      ⟨some 38, (.slice 23 (.tmp 36) (some (.tmp 37)) none none), 23, none⟩,
      ⟨none, (.call ⟨(.builtin .clear), #[(.tmp 38)], #[23]⟩), 0, none⟩])
    (.seq (.reg [] [⟨some 39, (.move (.tmp 0)), 23, none⟩,
      ⟨some 40, (.move (.tmp 5)), 3, none⟩,
      ⟨some 41, (.slice 23 (.tmp 39) none (some (.tmp 40)) none), 23, none⟩,
      ⟨some 4, (.assign (.tmp 41)), 23, none⟩])
    .ret))))))
theorem CL190 {pre suf : List AV} {sz : Nat} {els els' : List AV} {r : LRet} (hn : (pre ++ .sl lid 0 0 els.length :: suf).length ≤ 42) (h : vc Try.prog T [] A190 (FinL T [(.tmp 4)] sz r els') ⟨envOf 0 (pre ++ .sl lid 0 0 els.length :: suf), [(lid, some ⟨sz, els, 0, false⟩)]⟩) : CallL Try.prog 190 pre sz els suf r els' :=
  callL_of tok mixed Try.func190 (by kernel_rfl) (by kernel_rfl) (by kernel_rfl : Try.f190.ntmps = 42) (by kernel_rfl : Try.f190.body.bind (strip 42 (fun _ => [])) = some A190) hn h
def A191 : ACode :=
  (.seq (.reg [] [⟨some 3, (.assign (.const (.bool false))), 4, none⟩])
    (.seq (.reg [] [⟨some 4, (.move (.tmp 0)), 3, none⟩,
      ⟨some 5, (.load 3 (.tmp 1)), 3, none⟩,
      ⟨some 6, (.binOp .eql 3 (.tmp 4) (.tmp 5) 3), 4, none⟩,
      ⟨some 3, (.assign (.tmp 6)), 4, none⟩])
    .ret))
theorem C191 {args : List AV} {r : AV} (hn : args.length ≤ 7) (h : vc Try.prog T [] A191 (Fin T [(.tmp 3)] r) ⟨envOf 0 args, []⟩) : CallP Try.prog 191 args r :=
  callP_of tok mixed Try.func191 (by kernel_rfl) (by kernel_rfl) (by kernel_rfl : Try.f191.ntmps = 7) (by kernel_rfl : Try.f191.body.bind (strip 7 (fun _ => [])) = some A191) hn h
def A195 : ACode :=
  (.seq (.reg [] [⟨some 2, (.assign (.const (.bool false))), 4, none⟩])
    (.seq (.seq (.reg [] [⟨some 3, (.assign (.const (.int .i64 0))), 3, none⟩])
    (.block 0 (.loop (.seq (.seq (.reg [] [⟨some 4, (.move (.tmp 3)), 3, none⟩,
      ⟨some 5, (.move (.tmp 0)), 23, none⟩,
      ⟨some 6, (.call ⟨(.builtin .len), #[(.tmp 5)], #[23]⟩), 3, none⟩,
      ⟨some 7, (.binOp .lss 3 (.tmp 4) (.tmp 6) 3), 4, none⟩])
    (.cond (.tmp 7)
    .skip
    (.exit 0)))
    (.seq (.block 1 (.seq (.reg [] [⟨some 10, (.move (.tmp 0)), 23, none⟩,
      ⟨some 11, (.move (.tmp 3)), 3, none⟩,
      ⟨some 12, (.indexAddr 23 (.tmp 10) (.tmp 11)), 0, none⟩,
      ⟨some 13, (.load 3 (.tmp 12)), 3, none⟩,
      ⟨some 14, (.call ⟨(.value (.func 213)), #[(.tmp 13), (.const (.int .i64 0)), (.const (.int .i64 5))], #[3, 3, 3]⟩), 4, none⟩,
      ⟨some 15, (.unOp .not 4 (.tmp 14)), 4, none⟩])
    (.cond (.tmp 15)
    (.seq (.reg [] [⟨some 2, (.assign (.const (.bool false))), 4, none⟩])
    .ret)
    .skip)))
    (.reg [] [⟨some 8, (.move (.tmp 3)), 3, none⟩,
      ⟨some 9, (.binOp .add 3 (.tmp 8) (.const (.int .i64 1)) 3), 3, none⟩,
      ⟨some 3, (.assign (.tmp 9)), 3, none⟩]))))))
    (.seq (.reg [] [⟨some 2, (.assign (.const (.bool true))), 4, none⟩])
    .ret)))
theorem C195 {args : List AV} {r : AV} (hn : args.length ≤ 16) (h : vc Try.prog T [] A195 (Fin T [(.tmp 2)] r) ⟨envOf 0 args, []⟩) : CallP Try.prog 195 args r :=
  callP_of tok mixed Try.func195 (by kernel_rfl) (by kernel_rfl) (by kernel_rfl : Try.f195.ntmps = 16) (by kernel_rfl : Try.f195.body.bind (strip 16 (fun _ => [])) = some A195) hn h
def A214 : ACode :=
  (.seq (.reg [] [⟨some 6, (.assign (.const (.bool false))), 4, none⟩])
    (.seq (.seq (.reg [] [⟨some 7, (.assign (.const (.int .i64 0))), 3, none⟩])
    (.block 0 (.loop (.seq (.seq (.reg [] [⟨some 8, (.move (.tmp 7)), 3, none⟩,
      ⟨some 9, (.move (.tmp 0)), 23, none⟩,
      ⟨some 10, (.call ⟨(.builtin .len), #[(.tmp 9)], #[23]⟩), 3, none⟩,
      ⟨some 11, (.binOp .lss 3 (.tmp 8) (.tmp 10) 3), 4, none⟩])
    (.cond (.tmp 11)
    .skip
    (.exit 0)))
    (.seq (.block 1 (.seq (.draw [] [⟨some 14, (.move (.tmp 0)), 23, none⟩,
      ⟨some 15, (.move (.tmp 7)), 3, none⟩,
      ⟨some 16, (.indexAddr 23 (.tmp 14) (.tmp 15)), 0, none⟩,
      ⟨some 17, (.load 3 (.tmp 16)), 3, none⟩,
      ⟨some 18, (.move (.tmp 1)), 3, none⟩,
      ⟨some 19, (.move (.tmp 2)), 3, none⟩,
      ⟨some 20, (.call ⟨(.value (.func 235)), #[(.tmp 17), (.tmp 18), (.tmp 19)], #[3, 3, 3]⟩), 4, none⟩,
      ⟨some 21, (.unOp .not 4 (.tmp 20)), 4, none⟩,
      ⟨some 22, (.move (.tmp 21)), 4, none⟩,
      ⟨some 23, (.move (.tmp 7)), 3, some (22, false)⟩,
      ⟨some 24, (.binOp .gtr 3 (.tmp 23) (.const (.int .i64 0)) 3), 4, some (22, false)⟩,
      ⟨some 25, (.move (.tmp 24)), 4, some (22, false)⟩,
      ⟨some 26, (.move (.tmp 0)), 23, some (25, true)⟩,
      ⟨some 27, (.move (.tmp 7)), 3, some (25, true)⟩,
      ⟨some 28, (.indexAddr 23 (.tmp 26) (.tmp 27)), 0, some (25, true)⟩,
      ⟨some 29, (.load 3 (.tmp 28)), 3, some (25, true)⟩,
      ⟨some 30, (.move (.tmp 0)), 23, some (25, true)⟩,
      ⟨some 31, (.move (.tmp 7)), 3, some (25, true)⟩,
      ⟨some 32, (.binOp .sub 3 (.tmp 31) (.const (.int .i64 1)) 3), 3, some (25, true)⟩,
      ⟨some 33, (.indexAddr 23 (.tmp 30) (.tmp 32)), 0, some (25, true)⟩,
      ⟨some 34, (.load 3 (.tmp 33)), 3, some (25, true)⟩,
      ⟨some 35, (.binOp .leq 3 (.tmp 29) (.tmp 34) 3), 4, some (25, true)⟩,
      ⟨some 36, (.pick (.tmp 25) (.tmp 35) (.const (.bool false))), 4, some (22, false)⟩,
      ⟨some 37, (.pick (.tmp 22) (.const (.bool true)) (.tmp 36)), 4, none⟩] [(0, 1), (0, 4), (1, 4), (2, 4), (3, 4), (0, 5), (1, 5), (2, 5), (3, 5), (4, 5), (12, 13), (12, 16), (13, 16), (14, 16), (15, 16), (12, 17), (13, 17), (14, 17), (15, 17), (16, 17), (12, 18), (13, 18), (14, 18), (15, 18), (16, 18), (12, 19), (13, 19), (14, 19), (15, 19), (12, 20), (13, 20), (14, 20), (15, 20)])
    (.cond (.tmp 37)
    (.seq (.reg [] [⟨some 6, (.assign (.const (.bool false))), 4, none⟩])
    .ret)
    .skip)))
    (.reg [] [⟨some 12, (.move (.tmp 7)), 3, none⟩,
      ⟨some 13, (.binOp .add 3 (.tmp 12) (.const (.int .i64 1)) 3), 3, none⟩,
      ⟨some 7, (.assign (.tmp 13)), 3, none⟩]))))))
    (.seq (.reg [] [⟨some 6, (.assign (.const (.bool true))), 4, none⟩])
    .ret)))
theorem C214 {args : List AV} {r : AV} (hn : args.length ≤ 38) (h : vc Try.prog T [] A214 (Fin T [(.tmp 6)] r) ⟨envOf 0 args, []⟩) : CallP Try.prog 214 args r :=
  callP_of tok mixed Try.func214 (by kernel_rfl) (by kernel_rfl) (by kernel_rfl : Try.f214.ntmps = 38) (by kernel_rfl : Try.f214.body.bind (strip 38 (fun _ => [])) = some A214) hn h
def A217 : ACode :=
  (.seq (.reg [] [⟨some 2, (.box 72 (.tmp 0)), 0, none⟩,
      ⟨some 4, (.assign (.const (.int .i64 0))), 29, none⟩])
    (.seq (.seq (.reg [] [⟨some 6, (.load 72 (.tmp 2)), 72, none⟩,
      ⟨some 7, (.call ⟨(.value (.func 165)), #[(.tmp 6)], #[72]⟩), 29, none⟩,
      ⟨some 5, (.assign (.tmp 7)), 29, none⟩])
    (.seq (.reg [] [⟨some 8, (.move (.tmp 5)), 29, none⟩,
      ⟨some 9, (.binOp .neq 29 (.tmp 8) (.const (.int .i64 0)) 29), 4, none⟩])
    (.cond (.tmp 9)
    (.seq (.reg [] [⟨some 10, (.move (.tmp 5)), 29, none⟩,
      ⟨some 4, (.assign (.tmp 10)), 29, none⟩])
    .ret)
    .skip)))
    (.seq (.reg [] [⟨some 11, (.move (.tmp 1)), 23, none⟩,
      ⟨some 12, (.call ⟨(.value (.func 138)), #[(.tmp 11)], #[23]⟩), 29, none⟩,
      ⟨some 4, (.assign (.tmp 12)), 29, none⟩])
    .ret)))
theorem C217 {args : List AV} {r : AV} (hn : args.length ≤ 13) (h : vc Try.prog T [] A217 (Fin T [(.tmp 4)] r) ⟨envOf 0 args, []⟩) : CallP Try.prog 217 args r :=
  callP_of tok mixed Try.func217 (by kernel_rfl) (by kernel_rfl) (by kernel_rfl : Try.f217.ntmps = 13) (by kernel_rfl : Try.f217.body.bind (strip 13 (fun _ => [])) = some A217) hn h
def A218 : ACode :=
  (.seq (.reg [] [⟨some 3, (.box 72 (.tmp 0)), 0, none⟩,
      ⟨some 6, (.assign (.const (.bool false))), 4, none⟩])
    (.seq (.seq (.reg [] [⟨some 7, (.fieldAddr 72 (.tmp 3) 0), 0, none⟩,
      ⟨some 8, (.load 3 (.tmp 7)), 3, none⟩,
      ⟨some 9, (.binOp .lss 3 (.tmp 8) (.const (.int .i64 0)) 3), 4, none⟩])
    (.cond (.tmp 9)
    (.seq (.draw [] [⟨some 10, (.move (.tmp 2)), 3, none⟩,
      ⟨some 11, (.move (.tmp 1)), 23, none⟩,
      ⟨some 12, (.call ⟨(.builtin .len), #[(.tmp 11)], #[23]⟩), 3, none⟩,
      ⟨some 13, (.call ⟨(.value (.func 213)), #[(.tmp 10), (.const (.int .i64 0)), (.tmp 12)], #[3, 3, 3]⟩), 4, none⟩,
      ⟨some 14, (.move (.tmp 13)), 4, none⟩,
      ⟨some 15, (.fieldAddr 72 (.tmp 3) 2), 0, some (14, true)⟩,
      ⟨some 16, (.load 23 (.tmp 15)), 23, some (14, true)⟩,
      ⟨some 17, (.move (.tmp 1)), 23, some (14, true)⟩,
      ⟨some 18, (.move (.tmp 2)), 3, some (14, true)⟩,
      ⟨some 19, (.binOp .sub 3 (.tmp 18) (.const (.int .i64 1)) 3), 3, some (14, true)⟩,
      ⟨some 20, (.call ⟨(.value (.func 238)), #[(.tmp 17), (.tmp 19)], #[23, 3]⟩), 3, some (14, true)⟩,
      ⟨some 21, (.call ⟨(.value (.func 237)), #[(.tmp 16), (.tmp 20)], #[23, 3]⟩), 4, some (14, true)⟩,
      ⟨some 22, (.pick (.tmp 14) (.tmp 21) (.const (.bool false))), 4, none⟩,
      ⟨some 23, (.move (.tmp 22)), 4, none⟩,
      ⟨some 24, (.fieldAddr 72 (.tmp 3) 3), 0, some (23, true)⟩,
      ⟨some 25, (.load 23 (.tmp 24)), 23, some (23, true)⟩,
      ⟨some 26, (.move (.tmp 1)), 23, some (23, true)⟩,
      ⟨some 27, (.move (.tmp 2)), 3, some (23, true)⟩,
      ⟨some 28, (.call ⟨(.value (.func 238)), #[(.tmp 26), (.tmp 27)], #[23, 3]⟩), 3, some (23, true)⟩,
      ⟨some 29, (.call ⟨(.value (.func 237)), #[(.tmp 25), (.tmp 28)], #[23, 3]⟩), 4, some (23, true)⟩,
      ⟨some 30, (.pick (.tmp 23) (.tmp 29) (.const (.bool false))), 4, none⟩,
      ⟨some 6, (.assign (.tmp 30)), 4, none⟩] [(0, 1), (0, 2), (5, 7), (6, 7), (5, 8), (6, 8), (7, 8), (5, 9), (6, 9), (7, 9), (5, 10), (6, 10), (14, 16), (15, 16), (14, 17), (15, 17), (16, 17), (14, 18), (15, 18)])
    .ret)
    .skip))
    (.seq (.draw [] [⟨some 31, (.move (.tmp 2)), 3, none⟩,
      ⟨some 32, (.move (.tmp 1)), 23, none⟩,
      ⟨some 33, (.call ⟨(.builtin .len), #[(.tmp 32)], #[23]⟩), 3, none⟩,
      ⟨some 34, (.binOp .sub 3 (.tmp 33) (.const (.int .i64 1)) 3), 3, none⟩,
      ⟨some 35, (.call ⟨(.value (.func 213)), #[(.tmp 31), (.const (.int .i64 0)), (.tmp 34)], #[3, 3, 3]⟩), 4, none⟩,
      ⟨some 36, (.move (.tmp 35)), 4, none⟩,
      ⟨some 37, (.move (.tmp 1)), 23, some (36, true)⟩,
      ⟨some 38, (.move (.tmp 2)), 3, some (36, true)⟩,
      ⟨some 39, (.indexAddr 23 (.tmp 37) (.tmp 38)), 0, some (36, true)⟩,
      ⟨some 40, (.load 3 (.tmp 39)), 3, some (36, true)⟩,
      ⟨some 41, (.fieldAddr 72 (.tmp 3) 0), 0, some (36, true)⟩,
      ⟨some 42, (.load 3 (.tmp 41)), 3, some (36, true)⟩,
      ⟨some 43, (.binOp .eql 3 (.tmp 40) (.tmp 42) 3), 4, some (36, true)⟩,
      ⟨some 44, (.pick (.tmp 36) (.tmp 43) (.const (.bool false))), 4, none⟩,
      ⟨some 45, (.move (.tmp 44)), 4, none⟩,
      ⟨some 46, (.fieldAddr 72 (.tmp 3) 2), 0, some (45, true)⟩,
      ⟨some 47, (.load 23 (.tmp 46)), 23, some (45, true)⟩,
      ⟨some 48, (.move (.tmp 1)), 23, some (45, true)⟩,
      ⟨some 49, (.move (.tmp 2)), 3, some (45, true)⟩,
      ⟨some 50, (.binOp .sub 3 (.tmp 49) (.const (.int .i64 1)) 3), 3, some (45, true)⟩,
      ⟨some 51, (.call ⟨(.value (.func 238)), #[(.tmp 48), (.tmp 50)], #[23, 3]⟩), 3, some (45, true)⟩,
      ⟨some 52, (.call ⟨(.value (.func 237)), #[(.tmp 47), (.tmp 51)], #[23, 3]⟩), 4, some (45, true)⟩,
      ⟨some 53, (.pick (.tmp 45) (.tmp 52) (.const (.bool false))), 4, none⟩,
      ⟨some 54, (.move (.tmp 53)), 4, none⟩,
      ⟨some 55, (.fieldAddr 72 (.tmp 3) 3), 0, some (54, true)⟩,
      ⟨some 56, (.load 23 (.tmp 55)), 23, some (54, true)⟩,
      ⟨some 57, (.move (.tmp 1)), 23, some (54, true)⟩,
      ⟨some 58, (.move (.tmp 2)), 3, some (54, true)⟩,
      ⟨some 59, (.binOp .add 3 (.tmp 58) (.const (.int .i64 1)) 3), 3, some (54, true)⟩,
      ⟨some 60, (.call ⟨(.value (.func 238)), #[(.tmp 57), (.tmp 59)], #[23, 3]⟩), 3, some (54, true)⟩,
      ⟨some 61, (.call ⟨(.value (.func 237)), #[(.tmp 56), (.tmp 60)], #[23, 3]⟩), 4, some (54, true)⟩,
      ⟨some 62, (.pick (.tmp 54) (.tmp 61) (.const (.bool false))), 4, none⟩,
      ⟨some 6, (.assign (.tmp 62)), 4, none⟩] [(0, 1), (0, 2), (0, 3), (6, 7), (6, 10), (7, 10), (8, 10), (9, 10), (6, 11), (7, 11), (8, 11), (9, 11), (15, 17), (16, 17), (15, 18), (16, 18), (17, 18), (15, 19), (16, 19), (17, 19), (15, 20), (16, 20), (24, 26), (25, 26), (24, 27), (25, 27), (26, 27), (24, 28), (25, 28), (26, 28), (24, 29), (25, 29)])
    .ret)))
theorem C218 {args : List AV} {r : AV} (hn : args.length ≤ 63) (h : vc Try.prog T [] A218 (Fin T [(.tmp 6)] r) ⟨envOf 0 args, []⟩) : CallP Try.prog 218 args r :=
  callP_of tok mixed Try.func218 (by kernel_rfl) (by kernel_rfl) (by kernel_rfl : Try.f218.ntmps = 63) (by kernel_rfl : Try.f218.body.bind (strip 63 (fun _ => [])) = some A218) hn h
def A219 : ACode :=
  (.seq (.reg [] [⟨some 2, (.assign (.const (.slice none 0 0))), 23, none⟩,
      ⟨some 3, (.assign (.const (.int .i64 0))), 29, none⟩])
    (.seq (.seq (.reg [] [⟨some 4, (.move (.tmp 0)), 23, none⟩,
      ⟨some 5, (.call ⟨(.builtin .len), #[(.tmp 4)], #[23]⟩), 3, none⟩,
      ⟨some 6, (.binOp .gtr 3 (.tmp 5) (.const (.int .i64 8)) 3), 4, none⟩])
    (.cond (.tmp 6)
    (.seq (.reg [] [⟨some 2, (.assign (.const (.slice none 0 0))), 23, none⟩,
      ⟨some 3, (.assign (.const (.int .i64 3))), 29, none⟩])
    .ret)
    .skip))
    (.seq (.reg [] [⟨some 7, (.move (.tmp 0)), 23, none⟩,
      ⟨some 2, (.assign (.tmp 7)), 23, none⟩,
      ⟨some 3, (.assign (.const (.int .i64 0))), 29, none⟩])
    .ret)))
theorem C219 {args : List AV} {r : AV} (hn : args.length ≤ 8) (h : vc Try.prog T [] A219 (Fin T [(.tmp 2), (.tmp 3)] r) ⟨envOf 0 args, []⟩) : CallP Try.prog 219 args r :=
  callP_of tok mixed Try.func219 (by kernel_rfl) (by kernel_rfl) (by kernel_rfl : Try.f219.ntmps = 8) (by kernel_rfl : Try.f219.body.bind (strip 8 (fun _ => [])) = some A219) hn h
def A220 : ACode :=
  (.seq (.reg [] [⟨some 3, (.box 72 (.tmp 0)), 0, none⟩,
      ⟨some 6, (.assign (.const (.slice none 0 0))), 23, none⟩])
    (.seq (.reg [] [⟨some 8, (.buildSlice 23 0 #[]), 23, none⟩,
      ⟨some 9, (.move (.tmp 1)), 23, none⟩,
      ⟨some 10, (.move (.tmp 2)), 3, none⟩,
      ⟨some 11, (.slice 23 (.tmp 9) none (some (.tmp 10)) none), 23, none⟩,
      ⟨some 12, (.call ⟨(.builtin .append), #[(.tmp 8), (.tmp 11)], #[23, 23]⟩), 23, none⟩,
      ⟨some 7, (.assign (.tmp 12)), 23, none⟩])
    (.seq (.reg [] [⟨some 13, (.move (.tmp 7)), 23, none⟩,
      ⟨some 14, (.fieldAddr 72 (.tmp 3) 1), 0, none⟩,
      ⟨some 15, (.load 23 (.tmp 14)), 23, none⟩,
      ⟨some 16, (.call ⟨(.builtin .append), #[(.tmp 13), (.tmp 15)], #[23, 23]⟩), 23, none⟩,
      ⟨some 7, (.assign (.tmp 16)), 23, none⟩])
    (.seq (.seq (.reg [] [⟨some 17, (.fieldAddr 72 (.tmp 3) 0), 0, none⟩,
      ⟨some 18, (.load 3 (.tmp 17)), 3, none⟩,
      ⟨some 19, (.binOp .geq 3 (.tmp 18) (.const (.int .i64 0)) 3), 4, none⟩])
    (.cond (.tmp 19)
    (.reg [] [⟨some 20, (.move (.tmp 2)), 3, none⟩,
      ⟨some 21, (.binOp .add 3 (.tmp 20) (.const (.int .i64 1)) 3), 3, none⟩,
      ⟨some 2, (.assign (.tmp 21)), 3, none⟩])
    .skip))
    (.seq (.reg [] [⟨some 22, (.move (.tmp 7)), 23, none⟩,
      ⟨some 23, (.move (.tmp 1)), 23, none⟩,
      ⟨some 24, (.move (.tmp 2)), 3, none⟩,
      ⟨some 25, (.slice 23 (.tmp 23) (some (.tmp 24)) none none), 23, none⟩,
      ⟨some 26, (.call ⟨(.builtin .append), #[(.tmp 22), (.tmp 25)], #[23, 23]⟩), 23, none⟩,
      ⟨some 6, (.assign (.tmp 26)), 23, none⟩])
    .ret)))))
theorem C220 {args : List AV} {r : AV} (hn : args.length ≤ 27) (h : vc Try.prog T [] A220 (Fin T [(.tmp 6)] r) ⟨envOf 0 args, []⟩) : CallP Try.prog 220 args r :=
  callP_of tok mixed Try.func220 (by kernel_rfl) (by kernel_rfl) (by kernel_rfl : Try.f220.ntmps = 27) (by kernel_rfl : Try.f220.body.bind (strip 27 (fun _ => [])) = some A220) hn h
def A221 : ACode :=
  (.seq (.reg [] [⟨some 4, (.box 120 (.tmp 1)), 0, none⟩,
      ⟨some 5, (.box 120 (.tmp 2)), 0, none⟩,
      ⟨some 6, (.assign (.const (.bool false))), 4, none⟩])
    (.seq (.reg [] [⟨some 7, (.fieldAddr 120 (.tmp 4) 0), 0, none⟩,
      ⟨some 8, (.fieldAddr 46 (.tmp 7) 1), 0, none⟩,
      ⟨some 9, (.load 3 (.tmp 8)), 3, none⟩,
      ⟨some 10, (.fieldAddr 120 (.tmp 5) 0), 0, none⟩,
      ⟨some 11, (.fieldAddr 46 (.tmp 10) 1), 0, none⟩,
      ⟨some 12, (.load 3 (.tmp 11)), 3, none⟩,
      ⟨some 13, (.binOp .eql 3 (.tmp 9) (.tmp 12) 3), 4, none⟩,
      ⟨some 14, (.move (.tmp 13)), 4, none⟩,
      ⟨some 15, (.load 120 (.tmp 4)), 120, some (14, true)⟩,
      ⟨some 16, (.load 120 (.tmp 5)), 120, some (14, true)⟩,
      ⟨some 17, (.call ⟨(.value (.func 222)), #[(.tmp 15), (.tmp 16)], #[120, 120]⟩), 4, some (14, true)⟩,
      ⟨some 18, (.pick (.tmp 14) (.tmp 17) (.const (.bool false))), 4, none⟩,
      ⟨some 6, (.assign (.tmp 18)), 4, none⟩])
    .ret))
theorem C221 {args : List AV} {r : AV} (hn : args.length ≤ 19) (h : vc Try.prog T [] A221 (Fin T [(.tmp 6)] r) ⟨envOf 0 args, []⟩) : CallP Try.prog 221 args r :=
  callP_of tok mixed Try.func221 (by kernel_rfl) (by kernel_rfl) (by kernel_rfl : Try.f221.ntmps = 19) (by kernel_rfl : Try.f221.body.bind (strip 19 (fun _ => [])) = some A221) hn h
def A222 : ACode :=
  (.seq (.reg [] [⟨some 2, (.box 120 (.tmp 0)), 0, none⟩,
      ⟨some 3, (.box 120 (.tmp 1)), 0, none⟩,
      ⟨some 4, (.assign (.const (.bool false))), 4, none⟩])
    (.seq (.reg [] [⟨some 10, (.fieldAddr 120 (.tmp 2) 1), 0, none⟩,
      ⟨some 11, (.load 72 (.tmp 10)), 72, none⟩,
      ⟨some 12, (.fieldAddr 120 (.tmp 3) 1), 0, none⟩,
      ⟨some 13, (.load 72 (.tmp 12)), 72, none⟩,
      ⟨some 14, (.call ⟨(.value (.func 63)), #[(.tmp 11), (.tmp 13)], #[72, 72]⟩), 40, none⟩,
      ⟨some 9, (.move (.tmp 14)), 40, none⟩,
      ⟨some 15, (.extract (.tmp 9) 0), 4, none⟩,
      ⟨some 16, (.extract (.tmp 9) 1), 29, none⟩,
      ⟨some 5, (.assign (.tmp 15)), 4, none⟩,
      ⟨some 6, (.assign (.tmp 16)), 29, none⟩])
    (.seq (.reg [] [⟨some 18, (.fieldAddr 120 (.tmp 3) 1), 0, none⟩,
      ⟨some 19, (.load 72 (.tmp 18)), 72, none⟩,
      ⟨some 20, (.fieldAddr 120 (.tmp 2) 1), 0, none⟩,
      ⟨some 21, (.load 72 (.tmp 20)), 72, none⟩,
      ⟨some 22, (.call ⟨(.value (.func 63)), #[(.tmp 19), (.tmp 21)], #[72, 72]⟩), 40, none⟩,
      ⟨some 17, (.move (.tmp 22)), 40, none⟩,
      ⟨some 23, (.extract (.tmp 17) 0), 4, none⟩,
      ⟨some 24, (.extract (.tmp 17) 1), 29, none⟩,
      ⟨some 7, (.assign (.tmp 23)), 4, none⟩,
      ⟨some 8, (.assign (.tmp 24)), 29, none⟩])
    (.seq (.reg [] [⟨some 25, (.move (.tmp 5)), 4, none⟩,
      ⟨some 26, (.move (.tmp 25)), 4, none⟩,
      ⟨some 27, (.move (.tmp 7)), 4, some (26, true)⟩,
      ⟨some 28, (.unOp .not 4 (.tmp 27)), 4, some (26, true)⟩,
      ⟨some 29, (.pick (.tmp 26) (.tmp 28) (.const (.bool false))), 4, none⟩,
      ⟨some 4, (.assign (.tmp 29)), 4, none⟩])
    .ret))))
theorem C222 {args : List AV} {r : AV} (hn : args.length ≤ 30) (h : vc Try.prog T [] A222 (Fin T [(.tmp 4)] r) ⟨envOf 0 args, []⟩) : CallP Try.prog 222 args r :=
  callP_of tok mixed Try.func222 (by kernel_rfl) (by kernel_rfl) (by kernel_rfl : Try.f222.ntmps = 30) (by kernel_rfl : Try.f222.body.bind (strip 30 (fun _ => [])) = some A222) hn h
def A223 : ACode :=
  (.seq (.reg [] [⟨some 4, (.box 120 (.tmp 1)), 0, none⟩,
      ⟨some 5, (.box 120 (.tmp 2)), 0, none⟩,
      ⟨some 6, (.assign (.const (.bool false))), 4, none⟩])
    (.seq (.reg [] [⟨some 7, (.move (.tmp 0)), 23, none⟩,
      ⟨some 8, (.load 120 (.tmp 4)), 120, none⟩,
      ⟨some 9, (.load 120 (.tmp 5)), 120, none⟩,
      ⟨some 10, (.call ⟨(.value (.func 119)), #[(.tmp 7), (.tmp 8), (.tmp 9)], #[23, 120, 120]⟩), 4, none⟩,
      ⟨some 11, (.move (.tmp 10)), 4, none⟩,
      ⟨some 12, (.move (.tmp 0)), 23, some (11, true)⟩,
      ⟨some 13, (.load 120 (.tmp 5)), 120, some (11, true)⟩,
      ⟨some 14, (.load 120 (.tmp 4)), 120, some (11, true)⟩,
      ⟨some 15, (.call ⟨(.value (.func 119)), #[(.tmp 12), (.tmp 13), (.tmp 14)], #[23, 120, 120]⟩), 4, some (11, true)⟩,
      ⟨some 16, (.unOp .not 4 (.tmp 15)), 4, some (11, true)⟩,
      ⟨some 17, (.pick (.tmp 11) (.tmp 16) (.const (.bool false))), 4, none⟩,
      ⟨some 6, (.assign (.tmp 17)), 4, none⟩])
    .ret))
theorem C223 {args : List AV} {r : AV} (hn : args.length ≤ 18) (h : vc Try.prog T [] A223 (Fin T [(.tmp 6)] r) ⟨envOf 0 args, []⟩) : CallP Try.prog 223 args r :=
  callP_of tok mixed Try.func223 (by kernel_rfl) (by kernel_rfl) (by kernel_rfl : Try.f223.ntmps = 18) (by kernel_rfl : Try.f223.body.bind (strip 18 (fun _ => [])) = some A223) hn h
def A224 : ACode :=
  (.seq (.reg [] [⟨some 4, (.box 120 (.tmp 1)), 0, none⟩,
      ⟨some 5, (.box 120 (.tmp 2)), 0, none⟩,
      ⟨some 6, (.assign (.const (.bool false))), 4, none⟩])
    (.seq (.reg [] [⟨some 7, (.fieldAddr 120 (.tmp 4) 0), 0, none⟩,
      ⟨some 8, (.fieldAddr 46 (.tmp 7) 1), 0, none⟩,
      ⟨some 9, (.load 3 (.tmp 8)), 3, none⟩,
      ⟨some 10, (.fieldAddr 120 (.tmp 5) 0), 0, none⟩,
      ⟨some 11, (.fieldAddr 46 (.tmp 10) 1), 0, none⟩,
      ⟨some 12, (.load 3 (.tmp 11)), 3, none⟩,
      ⟨some 13, (.binOp .lss 3 (.tmp 9) (.tmp 12) 3), 4, none⟩,
      ⟨some 6, (.assign (.tmp 13)), 4, none⟩])
    .ret))
theorem C224 {args : List AV} {r : AV} (hn : args.length ≤ 14) (h : vc Try.prog T [] A224 (Fin T [(.tmp 6)] r) ⟨envOf 0 args, []⟩) : CallP Try.prog 224 args r :=
  callP_of tok mixed Try.func224 (by kernel_rfl) (by kernel_rfl) (by kernel_rfl : Try.f224.ntmps = 14) (by kernel_rfl : Try.f224.body.bind (strip 14 (fun _ => [])) = some A224) hn h
def A225 : ACode :=
  (.seq (.reg [] [⟨some 4, (.box 120 (.tmp 1)), 0, none⟩,
      ⟨some 5, (.box 120 (.tmp 2)), 0, none⟩,
      ⟨some 6, (.assign (.const (.bool false))), 4, none⟩])
    (.seq (.reg [] [⟨some 7, (.fieldAddr 120 (.tmp 4) 0), 0, none⟩,
      ⟨some 8, (.fieldAddr 46 (.tmp 7) 0), 0, none⟩,
      ⟨some 9, (.load 3 (.tmp 8)), 3, none⟩,
      ⟨some 10, (.fieldAddr 120 (.tmp 5) 0), 0, none⟩,
      ⟨some 11, (.fieldAddr 46 (.tmp 10) 0), 0, none⟩,
      ⟨some 12, (.load 3 (.tmp 11)), 3, none⟩,
      ⟨some 13, (.binOp .gtr 3 (.tmp 9) (.tmp 12) 3), 4, none⟩,
      ⟨some 6, (.assign (.tmp 13)), 4, none⟩])
    .ret))
theorem C225 {args : List AV} {r : AV} (hn : args.length ≤ 14) (h : vc Try.prog T [] A225 (Fin T [(.tmp 6)] r) ⟨envOf 0 args, []⟩) : CallP Try.prog 225 args r :=
  callP_of tok mixed Try.func225 (by kernel_rfl) (by kernel_rfl) (by kernel_rfl : Try.f225.ntmps = 14) (by kernel_rfl : Try.f225.body.bind (strip 14 (fun _ => [])) = some A225) hn h
def A226 : ACode :=
  (.seq (.reg [] [⟨some 2, (.box 72 (.tmp 0)), 0, none⟩,
      ⟨some 3, (.box 72 (.tmp 1)), 0, none⟩,
      ⟨some 4, (.assign (.const (.bool false))), 4, none⟩,
      ⟨some 5, (.assign (.const (.int .i64 0))), 29, none⟩])
    (.seq (.seq (.reg [] [⟨some 7, (.load 72 (.tmp 2)), 72, none⟩,
      ⟨some 8, (.load 72 (.tmp 3)), 72, none⟩,
      ⟨some 9, (.call ⟨(.value (.func 239)), #[(.tmp 7), (.tmp 8)], #[72, 72]⟩), 29, none⟩,
      ⟨some 6, (.assign (.tmp 9)), 29, none⟩])
    (.seq (.reg [] [⟨some 10, (.move (.tmp 6)), 29, none⟩,
      ⟨some 11, (.binOp .neq 29 (.tmp 10) (.const (.int .i64 0)) 29), 4, none⟩])
    (.cond (.tmp 11)
    (.seq (.reg [] [⟨some 12, (.move (.tmp 6)), 29, none⟩,
      ⟨some 4, (.assign (.const (.bool false))), 4, none⟩,
      ⟨some 5, (.assign (.tmp 12)), 29, none⟩])
    .ret)
    .skip)))
    (.seq (.reg [] [⟨some 13, (.fieldAddr 72 (.tmp 2) 0), 0, none⟩,
      ⟨some 14, (.load 3 (.tmp 13)), 3, none⟩,
      ⟨some 15, (.fieldAddr 72 (.tmp 3) 0), 0, none⟩,
      ⟨some 16, (.load 3 (.tmp 15)), 3, none⟩,
      ⟨some 17, (.binOp .eql 3 (.tmp 14) (.tmp 16) 3), 4, none⟩,
      ⟨some 18, (.move (.tmp 17)), 4, none⟩,
      ⟨some 19, (.fieldAddr 72 (.tmp 2) 2), 0, some (18, true)⟩,
      ⟨some 20, (.load 23 (.tmp 19)), 23, some (18, true)⟩,
      ⟨some 21, (.fieldAddr 72 (.tmp 3) 2), 0, some (18, true)⟩,
      ⟨some 22, (.load 23 (.tmp 21)), 23, some (18, true)⟩,
      ⟨some 23, (.call ⟨(.value (.func 240)), #[(.tmp 20), (.tmp 22)], #[23, 23]⟩), 4, some (18, true)⟩,
      ⟨some 24, (.pick (.tmp 18) (.tmp 23) (.const (.bool false))), 4, none⟩,
      ⟨some 25, (.move (.tmp 24)), 4, none⟩,
      ⟨some 26, (.fieldAddr 72 (.tmp 2) 3), 0, some (25, true)⟩,
      ⟨some 27, (.load 23 (.tmp 26)), 23, some (25, true)⟩,
      ⟨some 28, (.fieldAddr 72 (.tmp 3) 3), 0, some (25, true)⟩,
      ⟨some 29, (.load 23 (.tmp 28)), 23, some (25, true)⟩,
      ⟨some 30, (.call ⟨(.value (.func 240)), #[(.tmp 27), (.tmp 29)], #[23, 23]⟩), 4, some (25, true)⟩,
      ⟨some 31, (.pick (.tmp 25) (.tmp 30) (.const (.bool false))), 4, none⟩,
      ⟨some 4, (.assign (.tmp 31)), 4, none⟩,
      ⟨some 5, (.assign (.const (.int .i64 0))), 29, none⟩])
    .ret)))
theorem C226 {args : List AV} {r : AV} (hn : args.length ≤ 32) (h : vc Try.prog T [] A226 (Fin T [(.tmp 4), (.tmp 5)] r) ⟨envOf 0 args, []⟩) : CallP Try.prog 226 args r :=
  callP_of tok mixed Try.func226 (by kernel_rfl) (by kernel_rfl) (by kernel_rfl : Try.f226.ntmps = 32) (by kernel_rfl : Try.f226.body.bind (strip 32 (fun _ => [])) = some A226) hn h
def A237 : ACode :=
  (.seq (.reg [] [⟨some 4, (.assign (.const (.bool false))), 4, none⟩])
    (.seq (.reg [] [⟨some 5, (.move (.tmp 0)), 23, none⟩,
      ⟨some 6, (.call ⟨(.builtin .len), #[(.tmp 5)], #[23]⟩), 3, none⟩,
      ⟨some 7, (.binOp .eql 3 (.tmp 6) (.const (.int .i64 0)) 3), 4, none⟩,
      ⟨some 8, (.move (.tmp 7)), 4, none⟩,
      ⟨some 9, (.move (.tmp 0)), 23, some (8, false)⟩,
      ⟨some 10, (.move (.tmp 1)), 3, some (8, false)⟩,
      ⟨some 11, (.call ⟨(.value (.func 67)), #[(.tmp 9), (.tmp 10)], #[23, 3]⟩), 4, some (8, false)⟩,
      ⟨some 12, (.pick (.tmp 8) (.const (.bool true)) (.tmp 11)), 4, none⟩,
      ⟨some 4, (.assign (.tmp 12)), 4, none⟩])
    .ret))
theorem C237 {args : List AV} {r : AV} (hn : args.length ≤ 13) (h : vc Try.prog T [] A237 (Fin T [(.tmp 4)] r) ⟨envOf 0 args, []⟩) : CallP Try.prog 237 args r :=
  callP_of tok mixed Try.func237 (by kernel_rfl) (by kernel_rfl) (by kernel_rfl : Try.f237.ntmps = 13) (by kernel_rfl : Try.f237.body.bind (strip 13 (fun _ => [])) = some A237) hn h
def A238 : ACode :=
  (.seq (.reg [] [⟨some 4, (.assign (.const (.int .i64 0))), 3, none⟩])
    (.seq (.seq (.reg [] [⟨some 5, (.move (.tmp 1)), 3, none⟩,
      ⟨some 6, (.move (.tmp 0)), 23, none⟩,
      ⟨some 7, (.call ⟨(.builtin .len), #[(.tmp 6)], #[23]⟩), 3, none⟩,
      ⟨some 8, (.binOp .sub 3 (.tmp 7) (.const (.int .i64 1)) 3), 3, none⟩,
      ⟨some 9, (.call ⟨(.value (.func 213)), #[(.tmp 5), (.const (.int .i64 0)), (.tmp 8)], #[3, 3, 3]⟩), 4, none⟩])
    (.cond (.tmp 9)
    (.seq (.reg [] [⟨some 10, (.move (.tmp 0)), 23, none⟩,
      ⟨some 11, (.move (.tmp 1)), 3, none⟩,
      ⟨some 12, (.indexAddr 23 (.tmp 10) (.tmp 11)), 0, none⟩,
      ⟨some 13, (.load 3 (.tmp 12)), 3, none⟩,
      ⟨some 4, (.assign (.tmp 13)), 3, none⟩])
    .ret)
    .skip))
    (.seq (.reg [] [⟨some 4, (.assign (.const (.int .i64 (-1)))), 3, none⟩])
    .ret)))
theorem C238 {args : List AV} {r : AV} (hn : args.length ≤ 14) (h : vc Try.prog T [] A238 (Fin T [(.tmp 4)] r) ⟨envOf 0 args, []⟩) : CallP Try.prog 238 args r :=
  callP_of tok mixed Try.func238 (by kernel_rfl) (by kernel_rfl) (by kernel_rfl : Try.f238.ntmps = 14) (by kernel_rfl : Try.f238.body.bind (strip 14 (fun _ => [])) = some A238) hn h
def A239 : ACode :=
  (.seq (.reg [] [⟨some 2, (.box 72 (.tmp 0)), 0, none⟩,
      ⟨some 3, (.box 72 (.tmp 1)), 0, none⟩,
      ⟨some 4, (.assign (.const (.int .i64 0))), 29, none⟩])
    (.seq (.seq (.reg [] [⟨some 6, (.load 72 (.tmp 2)), 72, none⟩,
      ⟨some 7, (.call ⟨(.value (.func 165)), #[(.tmp 6)], #[72]⟩), 29, none⟩,
      ⟨some 5, (.assign (.tmp 7)), 29, none⟩])
    (.seq (.reg [] [⟨some 8, (.move (.tmp 5)), 29, none⟩,
      ⟨some 9, (.binOp .neq 29 (.tmp 8) (.const (.int .i64 0)) 29), 4, none⟩])
    (.cond (.tmp 9)
    (.seq (.reg [] [⟨some 10, (.move (.tmp 5)), 29, none⟩,
      ⟨some 4, (.assign (.tmp 10)), 29, none⟩])
    .ret)
    .skip)))
    (.seq (.reg [] [⟨some 11, (.load 72 (.tmp 3)), 72, none⟩,
      ⟨some 12, (.call ⟨(.value (.func 165)), #[(.tmp 11)], #[72]⟩), 29, none⟩,
      ⟨some 4, (.assign (.tmp 12)), 29, none⟩])
    .ret)))
theorem C239 {args : List AV} {r : AV} (hn : args.length ≤ 13) (h : vc Try.prog T [] A239 (Fin T [(.tmp 4)] r) ⟨envOf 0 args, []⟩) : CallP Try.prog 239 args r :=
  callP_of tok mixed Try.func239 (by kernel_rfl) (by kernel_rfl) (by kernel_rfl : Try.f239.ntmps = 13) (by kernel_rfl : Try.f239.body.bind (strip 13 (fun _ => [])) = some A239) hn h
def A240 : ACode :=
  (.seq (.reg [] [⟨some 4, (.assign (.const (.bool false))), 4, none⟩])
    (.seq (.seq (.reg [] [⟨some 5, (.assign (.const (.int .i64 (-1)))), 3, none⟩])
    (.block 0 (.loop (.seq (.seq (.reg [] [⟨some 6, (.move (.tmp 5)), 3, none⟩,
      ⟨some 7, (.binOp .lss 3 (.tmp 6) (.const (.int .i64 6)) 3), 4, none⟩])
    (.cond (.tmp 7)
    .skip
    (.exit 0)))
    (.seq (.block 1 (.seq (.reg [] [⟨some 10, (.move (.tmp 0)), 23, none⟩,
      ⟨some 11, (.move (.tmp 5)), 3, none⟩,
      ⟨some 12, (.call ⟨(.value (.func 237)), #[(.tmp 10), (.tmp 11)], #[23, 3]⟩), 4, none⟩,
      ⟨some 13, (.move (.tmp 12)), 4, none⟩,
      ⟨some 14, (.move (.tmp 1)), 23, some (13, true)⟩,
      ⟨some 15, (.move (.tmp 5)), 3, some (13, true)⟩,
      ⟨some 16, (.call ⟨(.value (.func 237)), #[(.tmp 14), (.tmp 15)], #[23, 3]⟩), 4, some (13, true)⟩,
      ⟨some 17, (.unOp .not 4 (.tmp 16)), 4, some (13, true)⟩,
      ⟨some 18, (.pick (.tmp 13) (.tmp 17) (.const (.bool false))), 4, none⟩])
    (.cond (.tmp 18)
    (.seq (.reg [] [⟨some 4, (.assign (.const (.bool false))), 4, none⟩])
    .ret)
    .skip)))
    (.reg [] [⟨some 8, (.move (.tmp 5)), 3, none⟩,
      ⟨some 9, (.binOp .add 3 (.tmp 8) (.const (.int .i64 1)) 3), 3, none⟩,
      ⟨some 5, (.assign (.tmp 9)), 3, none⟩]))))))
    (.seq (.reg [] [⟨some 4, (.assign (.const (.bool true))), 4, none⟩])
    .ret)))
theorem C240 {args : List AV} {r : AV} (hn : args.length ≤ 19) (h : vc Try.prog T [] A240 (Fin T [(.tmp 4)] r) ⟨envOf 0 args, []⟩) : CallP Try.prog 240 args r :=
  callP_of tok mixed Try.func240 (by kernel_rfl) (by kernel_rfl) (by kernel_rfl : Try.f240.ntmps = 19) (by kernel_rfl : Try.f240.body.bind (strip 19 (fun _ => [])) = some A240) hn h
def A67 : ACode :=
  (.seq (.reg [] [⟨some 4, (.assign (.const (.bool false))), 4, none⟩])
    (.seq (.seq (.reg [] [⟨some 5, (.assign (.const (.int .i64 0))), 3, none⟩])
    (.block 0 (.loop (.seq (.seq (.reg [] [⟨some 6, (.move (.tmp 5)), 3, none⟩,
      ⟨some 7, (.move (.tmp 0)), 23, none⟩,
      ⟨some 8, (.call ⟨(.builtin .len), #[(.tmp 7)], #[23]⟩), 3, none⟩,
      ⟨some 9, (.binOp .lss 3 (.tmp 6) (.tmp 8) 3), 4, none⟩])
    (.cond (.tmp 9)
    .skip
    (.exit 0)))
    (.seq (.block 1 (.seq (.reg [] [⟨some 12, (.move (.tmp 0)), 23, none⟩,
      ⟨some 13, (.move (.tmp 5)), 3, none⟩,
      ⟨some 14, (.indexAddr 23 (.tmp 12) (.tmp 13)), 0, none⟩,
      ⟨some 15, (.load 3 (.tmp 14)), 3, none⟩,
      ⟨some 16, (.move (.tmp 1)), 3, none⟩,
      ⟨some 17, (.binOp .eql 3 (.tmp 15) (.tmp 16) 3), 4, none⟩])
    (.cond (.tmp 17)
    (.seq (.reg [] [⟨some 4, (.assign (.const (.bool true))), 4, none⟩])
    .ret)
    .skip)))
    (.reg [] [⟨some 10, (.move (.tmp 5)), 3, none⟩,
      ⟨some 11, (.binOp .add 3 (.tmp 10) (.const (.int .i64 1)) 3), 3, none⟩,
      ⟨some 5, (.assign (.tmp 11)), 3, none⟩]))))))
    (.seq (.reg [] [⟨some 4, (.assign (.const (.bool false))), 4, none⟩])
    .ret)))
theorem C67 {args : List AV} {r : AV} (hn : args.length ≤ 18) (h : vc Try.prog T [] A67 (Fin T [(.tmp 4)] r) ⟨envOf 0 args, []⟩) : CallP Try.prog 67 args r :=
  callP_of tok mixed Try.func67 (by kernel_rfl) (by kernel_rfl) (by kernel_rfl : Try.f67.ntmps = 18) (by kernel_rfl : Try.f67.body.bind (strip 18 (fun _ => [])) = some A67) hn h

end Go.Proofs.Ytaooenmkofjafaa
end

section
/- Contracts: the reference's rules. -/
namespace Go.Proofs.Ytaooenmkofjafaa
open Go.Abs Go
set_option maxRecDepth 20000
set_option maxHeartbeats 2000000
attribute [local irreducible] PreK CondK CallK CallG CallX LoopK

theorem within2_c (n lo hi : Int) : CallP Try.prog 213 [iv n, iv lo, iv hi] (bv (decide (lo ≤ n) && decide (n ≤ hi))) := by
  refine C213 (by simp) ?_
  simp [A213]
theorem within1_c (n lo hi : Int) : CallP Try.prog 235 [iv n, iv lo, iv hi] (bv (decide (lo ≤ n) && decide (n ≤ hi))) := by
  refine C235 (by simp) ?_
  simp [A235]
theorem isWord_c (l : List Int) (hl : l.length ≤ 1000) : CallP Try.prog 195 [ints l] (bv (!l.any fun x => !isSound x)) := by
  refine C195 (by simp) ?_
  generalize hR : (!l.any fun x => !isSound x) = R
  simp [A195]
  refine LoopK.by (fun i : Nat => ⟨[(3, iv i), (0, ints l)], []⟩) (fun i => l.length - i) (fun i => i ≤ l.length ∧ (!(l.drop i).any fun x => !isSound x) = R) 0 (by simpa using hR) (by simp) ?_
  intro i Q' ⟨hi, hc⟩ hq he hr
  try simp 
  refine CondK.intro (fun h => ?_) (fun h => ?_)
  · simp at h
    rw [drop_cons l i h] at hc
    simp [h]
    try simp 
    repeat' (first
      | (refine CallX.pure (within2_c (el l i) 0 5) (by simp) (by simp) ?_; try simp )
      | (refine CallK.intro (within2_c (el l i) 0 5) (by simp) (by simp) ?_; try simp )
      | (refine CallG.intro (fun _ => within2_c (el l i) 0 5) (by simp) (by simp) ?_; try simp )
      | ((with_reducible refine PreK.intro ?_ ?_); (next => (first | omega | (intros; first | omega | (refine ⟨by omega, ?_⟩; repeat (first | assumption | constructor)) | assumption))); intro _; try simp )
      | fail)
    refine CondK.intro (fun h2 => ?_) (fun h2 => ?_)
    · have hb : isSound (el l i) = false := by simp at h2; simp [isSound]; omega
      simp [hb] at hc
      try simp 
      apply hr
      simp [hc]
    · have hb : isSound (el l i) = true := by simp at h2; simp [isSound]; omega
      simp [hb] at hc
      try simp 
      refine PreK.intro (by omega) fun _ => ?_
      try simp 
      exact hq (i + 1) _ ⟨by omega, by simpa using hc⟩ (by omega) (by simp)
  · simp at h
    rw [List.drop_eq_nil_of_le (by omega)] at hc
    simp at hc
    try simp 
    apply he
    simp [hc]
theorem rValidateWord_c (w : List Int) (hw : w.length ≤ 1000) : CallP Try.prog 138 [ints w] (iv (wordErr w)) := by
  refine C138 (by simp) ?_
  generalize hR : wordErr w = R
  unfold wordErr at hR
  simp [A138]
  refine CondK.intro (fun h => ?_) (fun h => ?_)
  · simp at h
    rw [if_pos (by omega)] at hR
    simp [hR]
  · simp at h
    rw [if_neg (by omega)] at hR
    try simp 
    try simp 
    repeat' (first
      | (refine CallX.pure (isWord_c w hw) (by simp) (by simp) ?_; try simp )
      | (refine CallK.intro (isWord_c w hw) (by simp) (by simp) ?_; try simp )
      | (refine CallG.intro (fun _ => isWord_c w hw) (by simp) (by simp) ?_; try simp )
      | ((with_reducible refine PreK.intro ?_ ?_); (next => (first | omega | (intros; first | omega | (refine ⟨by omega, ?_⟩; repeat (first | assumption | constructor)) | assumption))); intro _; try simp )
      | fail)
    refine CondK.intro (fun h2 => ?_) (fun h2 => ?_)
    · rw [if_pos (by simpa using h2)] at hR
      simp [hR]
    · rw [if_neg (by simpa using h2)] at hR
      simp [hR]
theorem rHas_c (l : List Int) (n : Int) (hl : l.length ≤ 1000) : CallP Try.prog 67 [ints l, iv n] (bv (l.any fun x => decide (n = x))) := by
  refine C67 (by simp) ?_
  generalize hR : (l.any fun x => decide (n = x)) = R
  simp [A67]
  refine LoopK.by (fun i : Nat => ⟨[(5, iv i), (0, ints l), (1, iv n)], []⟩) (fun i => l.length - i) (fun i => i ≤ l.length ∧ ((l.drop i).any fun x => decide (n = x)) = R) 0 (by simpa using hR) (by simp) ?_
  intro i Q' ⟨hi, hc⟩ hq he hr
  try simp 
  refine CondK.intro (fun h => ?_) (fun h => ?_)
  · simp at h
    rw [drop_cons l i h] at hc
    simp [h]
    refine CondK.intro (fun h2 => ?_) (fun h2 => ?_)
    · simp at h2
      simp [h2] at hc
      try simp 
      apply hr
      simp [hc]
    · simp at h2
      simp [Ne.symm h2] at hc
      try simp 
      refine PreK.intro (by omega) fun _ => ?_
      try simp 
      exact hq (i + 1) _ ⟨by omega, by simpa using hc⟩ (by omega) (by simp)
  · simp at h
    rw [List.drop_eq_nil_of_le (by omega)] at hc
    simp at hc
    try simp 
    apply he
    simp [hc]
theorem rmay_c (set : List Int) (n : Int) (hs : set.length ≤ 1000) : CallP Try.prog 237 [ints set, iv n] (bv (mayS set n)) := by
  refine C237 (by simp) ?_
  simp [A237]
  try simp 
  repeat' (first
    | (refine CallX.pure (rHas_c set n hs) (by simp) (by simp) ?_; try simp )
    | (refine CallK.intro (rHas_c set n hs) (by simp) (by simp) ?_; try simp )
    | (refine CallG.intro (fun _ => rHas_c set n hs) (by simp) (by simp) ?_; try simp )
    | ((with_reducible refine PreK.intro ?_ ?_); (next => (first | omega | (intros; first | omega | (refine ⟨by omega, ?_⟩; repeat (first | assumption | constructor)) | assumption))); intro _; try simp )
    | fail)
  unfold mayS
  cases decide (set = []) <;> rfl
theorem rat_c (w : List Int) (i : Int) (hw : w.length ≤ 1000) : CallP Try.prog 238 [ints w, iv i] (iv (atW w i)) := by
  refine C238 (by simp) ?_
  simp [A238]
  try simp 
  repeat' (first
    | (refine CallX.pure (within2_c i 0 (w.length - 1)) (by simp) (by simp) ?_; try simp )
    | (refine CallK.intro (within2_c i 0 (w.length - 1)) (by simp) (by simp) ?_; try simp )
    | (refine CallG.intro (fun _ => within2_c i 0 (w.length - 1)) (by simp) (by simp) ?_; try simp )
    | ((with_reducible refine PreK.intro ?_ ?_); (next => (first | omega | (intros; first | omega | (refine ⟨by omega, ?_⟩; repeat (first | assumption | constructor)) | assumption))); intro _; try simp )
    | fail)
  refine CondK.intro (fun h => ?_) (fun h => ?_)
  · simp at h
    have h2 : 0 ≤ i ∧ i < w.length := by omega
    simp [h2, show i.toNat < w.length by omega]
    simp [atW, h2]
  · simp at h
    have : ¬ (0 ≤ i ∧ i < w.length) := by omega
    simp [atW, this]
theorem rtold_c (w : List Int) : CallP Try.prog 219 [ints w] (.tup [ints (if 8 < w.length then [] else w), iv (shortErr w)]) := by
  refine C219 (by simp) ?_
  simp [A219]
  refine CondK.intro (fun h => ?_) (fun h => ?_)
  · simp at h
    have : 8 < w.length := by omega
    simp [shortErr, this]
  · simp at h
    have : ¬ 8 < w.length := by omega
    simp [shortErr, this]
theorem rput_c (r : Rule) (w : List Int) (i : Nat) (hi : i + (long r).toNat ≤ w.length) (hf : r.frm = -1 ∨ 0 ≤ r.frm) (hw : w.length ≤ 400) (ht : r.to.length ≤ 400) : CallP Try.prog 220 [ruleV r, ints w, iv i] (ints (putW r w i)) := by
  refine C220 (by simp) ?_
  simp [A220, show i ≤ w.length by omega]
  refine PreK.intro (by omega) fun _ => ?_
  try simp 
  refine PreK.intro (by omega) fun _ => ?_
  try simp 
  refine CondK.intro (fun h => ?_) (fun h => ?_)
  · have hl : long r = 1 := by simp at h; unfold long; rw [if_neg (by omega)]
    rw [hl] at hi
    try simp 
    refine PreK.intro (by omega) fun _ => ?_
    try simp 
    have e1 : ((i : Int) + 1).toNat = i + 1 := by omega
    have e2 : i + 1 ≤ w.length := by simpa using hi
    try simp 
    refine PreK.intro (by omega) fun _ => ?_
    try simp 
    refine PreK.intro (by omega) fun _ => ?_
    try simp 
    simp [putW, hl, List.map_take, List.map_drop, List.take_of_length_le]
    rw [List.take_of_length_le (by simp; omega)]
  · have hl : long r = 0 := by simp at h; unfold long; rw [if_pos (by omega)]
    rw [hl] at hi
    have e2 : i ≤ w.length := by simpa using hi
    try simp 
    refine PreK.intro (by omega) fun _ => ?_
    try simp 
    refine PreK.intro (by omega) fun _ => ?_
    try simp 
    simp [putW, hl, List.map_take, List.map_drop, List.take_of_length_le]
    rw [List.take_of_length_le (by simp; omega)]
/-- The places of a rule, as the reference asks for them. -/
theorem risPlace_c (r : Rule) (w : List Int) (p : Int) (h : r.small) (hf : -1 ≤ r.frm) (hw : w.length ≤ 1000) : CallP Try.prog 218 [ruleV r, ints w, iv p] (bv (placeB r w p)) := by
  refine C218 (by simp) ?_
  simp [A218]
  refine CondK.intro (fun h1 => ?_) (fun h1 => ?_)
  · have hfr : r.frm = -1 := by simp at h1; omega
    try simp 
    try simp 
    repeat' (first
      | (refine CallX.pure (within2_c p 0 w.length) (by simp) (by simp) ?_; try simp )
      | (refine CallK.intro (within2_c p 0 w.length) (by simp) (by simp) ?_; try simp )
      | (refine CallG.intro (fun _ => within2_c p 0 w.length) (by simp) (by simp) ?_; try simp )
      | (refine CallX.pure (rat_c w (p - 1) hw) (by simp) (by simp) ?_; try simp )
      | (refine CallK.intro (rat_c w (p - 1) hw) (by simp) (by simp) ?_; try simp )
      | (refine CallG.intro (fun _ => rat_c w (p - 1) hw) (by simp) (by simp) ?_; try simp )
      | (refine CallX.pure (rat_c w p hw) (by simp) (by simp) ?_; try simp )
      | (refine CallK.intro (rat_c w p hw) (by simp) (by simp) ?_; try simp )
      | (refine CallG.intro (fun _ => rat_c w p hw) (by simp) (by simp) ?_; try simp )
      | (refine CallX.pure (rmay_c r.left (atW w (p - 1)) h.2.1) (by simp) (by simp) ?_; try simp )
      | (refine CallK.intro (rmay_c r.left (atW w (p - 1)) h.2.1) (by simp) (by simp) ?_; try simp )
      | (refine CallG.intro (fun _ => rmay_c r.left (atW w (p - 1)) h.2.1) (by simp) (by simp) ?_; try simp )
      | (refine CallX.pure (rmay_c r.right (atW w p) h.2.2) (by simp) (by simp) ?_; try simp )
      | (refine CallK.intro (rmay_c r.right (atW w p) h.2.2) (by simp) (by simp) ?_; try simp )
      | (refine CallG.intro (fun _ => rmay_c r.right (atW w p) h.2.2) (by simp) (by simp) ?_; try simp )
      | ((with_reducible refine PreK.intro ?_ ?_); (next => (first | omega | (intros; first | omega | (refine ⟨by omega, ?_⟩; repeat (first | assumption | constructor)) | assumption))); intro _; try simp )
      | fail)
    have hl : long r = 0 := by unfold long; rw [if_pos hfr]
    unfold placeB isAt
    rw [hl, hfr]
    by_cases hp : 0 ≤ p
    · have e : ((p.toNat : Nat) : Int) = p := Int.toNat_of_nonneg hp
      simp [e, Bool.and_assoc]
    · simp [hp]
  · have hfr : r.frm ≠ -1 := by simp at h1; omega
    have hl : long r = 1 := by unfold long; rw [if_neg hfr]
    try simp 
    refine PreK.intro (by omega) fun _ => ?_
    try simp 
    refine CallK.intro (by simpa using within2_c p 0 (w.length - 1)) (by simp) (by simp) ?_
    try simp 
    by_cases hp : 0 ≤ p ∧ p ≤ w.length - 1
    · obtain ⟨n, rfl⟩ := Int.eq_ofNat_of_zero_le hp.1
      have hn : n < w.length := by omega
      have hn1 : (n : Int) ≤ w.length - 1 := hp.2
      simp [hn, hn1]
      try simp 
      repeat' (first
        | (refine CallX.pure (rat_c w (n - 1) hw) (by simp) (by simp) ?_; try simp )
        | (refine CallK.intro (rat_c w (n - 1) hw) (by simp) (by simp) ?_; try simp )
        | (refine CallG.intro (fun _ => rat_c w (n - 1) hw) (by simp) (by simp) ?_; try simp )
        | (refine CallX.pure (rat_c w (n + 1) hw) (by simp) (by simp) ?_; try simp )
        | (refine CallK.intro (rat_c w (n + 1) hw) (by simp) (by simp) ?_; try simp )
        | (refine CallG.intro (fun _ => rat_c w (n + 1) hw) (by simp) (by simp) ?_; try simp )
        | (refine CallX.pure (rmay_c r.left (atW w ((n : Int) - 1)) h.2.1) (by simp) (by simp) ?_; try simp )
        | (refine CallK.intro (rmay_c r.left (atW w ((n : Int) - 1)) h.2.1) (by simp) (by simp) ?_; try simp )
        | (refine CallG.intro (fun _ => rmay_c r.left (atW w ((n : Int) - 1)) h.2.1) (by simp) (by simp) ?_; try simp )
        | (refine CallX.pure (rmay_c r.right (atW w ((n : Int) + 1)) h.2.2) (by simp) (by simp) ?_; try simp )
        | (refine CallK.intro (rmay_c r.right (atW w ((n : Int) + 1)) h.2.2) (by simp) (by simp) ?_; try simp )
        | (refine CallG.intro (fun _ => rmay_c r.right (atW w ((n : Int) + 1)) h.2.2) (by simp) (by simp) ?_; try simp )
        | ((with_reducible refine PreK.intro ?_ ?_); (next => (first | omega | (intros; first | omega | (refine ⟨by omega, ?_⟩; repeat (first | assumption | constructor)) | assumption))); intro _; try simp )
        | fail)
      unfold placeB isAt
      rw [hl]
      have e3 : decide ((n : Int) + 1 ≤ (w.length : Int)) = true := by simp; omega
      have e4 : decide ((0 : Int) ≤ (n : Int)) = true := by simp
      have e5 : decide (r.frm = -1) = false := by simp [hfr]
      rw [e3, e4, e5]
      simp
    · have e : (decide (0 ≤ p) && decide (p ≤ (w.length : Int) - 1)) = false := by
        by_cases h0 : 0 ≤ p
        · have : ¬ p ≤ (w.length : Int) - 1 := fun h1 => hp ⟨h0, h1⟩
          simp [this]
        · simp [h0]
      have hpl : placeB r w p = false := by
        unfold placeB
        rw [hl]
        by_cases h0 : 0 ≤ p
        · have : ¬ p + 1 ≤ (w.length : Int) := fun h1 => hp ⟨h0, by omega⟩
          simp [this]
        · simp [h0]
      rw [e, hpl]
      by_cases h0 : 0 ≤ p
      · have hge : w.length ≤ p.toNat := by have : ¬ p ≤ (w.length : Int) - 1 := fun h1 => hp ⟨h0, h1⟩; omega
        have hn := nth_ge iv w hge
        try simp [hn]
        repeat' (first
          | (refine CallX.pure (rat_c w (p - 1) hw) (by simp) (by simp) ?_; try simp [hn])
          | (refine CallK.intro (rat_c w (p - 1) hw) (by simp) (by simp) ?_; try simp [hn])
          | (refine CallG.intro (fun _ => rat_c w (p - 1) hw) (by simp) (by simp) ?_; try simp [hn])
          | (refine CallX.pure (rat_c w (p + 1) hw) (by simp) (by simp) ?_; try simp [hn])
          | (refine CallK.intro (rat_c w (p + 1) hw) (by simp) (by simp) ?_; try simp [hn])
          | (refine CallG.intro (fun _ => rat_c w (p + 1) hw) (by simp) (by simp) ?_; try simp [hn])
          | (refine CallX.pure (rmay_c r.left (atW w (p - 1)) h.2.1) (by simp) (by simp) ?_; try simp [hn])
          | (refine CallK.intro (rmay_c r.left (atW w (p - 1)) h.2.1) (by simp) (by simp) ?_; try simp [hn])
          | (refine CallG.intro (fun _ => rmay_c r.left (atW w (p - 1)) h.2.1) (by simp) (by simp) ?_; try simp [hn])
          | (refine CallX.pure (rmay_c r.right (atW w (p + 1)) h.2.2) (by simp) (by simp) ?_; try simp [hn])
          | (refine CallK.intro (rmay_c r.right (atW w (p + 1)) h.2.2) (by simp) (by simp) ?_; try simp [hn])
          | (refine CallG.intro (fun _ => rmay_c r.right (atW w (p + 1)) h.2.2) (by simp) (by simp) ?_; try simp [hn])
          | ((with_reducible refine PreK.intro ?_ ?_); (next => (first | omega | (intros; first | omega | (refine ⟨by omega, ?_⟩; repeat (first | assumption | constructor)) | assumption))); intro _; try simp [hn])
          | fail)
      · have hz : p.toNat = 0 := by omega
        cases w with
        | nil =>
          have hn : nth [] 0 = .junk := rfl
          try simp [hz, hn]
          repeat' (first
            | (refine CallX.pure (rat_c [] (p - 1) hw) (by simp) (by simp) ?_; try simp [hz, hn])
            | (refine CallK.intro (rat_c [] (p - 1) hw) (by simp) (by simp) ?_; try simp [hz, hn])
            | (refine CallG.intro (fun _ => rat_c [] (p - 1) hw) (by simp) (by simp) ?_; try simp [hz, hn])
            | (refine CallX.pure (rat_c [] (p + 1) hw) (by simp) (by simp) ?_; try simp [hz, hn])
            | (refine CallK.intro (rat_c [] (p + 1) hw) (by simp) (by simp) ?_; try simp [hz, hn])
            | (refine CallG.intro (fun _ => rat_c [] (p + 1) hw) (by simp) (by simp) ?_; try simp [hz, hn])
            | (refine CallX.pure (rmay_c r.left (atW [] (p - 1)) h.2.1) (by simp) (by simp) ?_; try simp [hz, hn])
            | (refine CallK.intro (rmay_c r.left (atW [] (p - 1)) h.2.1) (by simp) (by simp) ?_; try simp [hz, hn])
            | (refine CallG.intro (fun _ => rmay_c r.left (atW [] (p - 1)) h.2.1) (by simp) (by simp) ?_; try simp [hz, hn])
            | (refine CallX.pure (rmay_c r.right (atW [] (p + 1)) h.2.2) (by simp) (by simp) ?_; try simp [hz, hn])
            | (refine CallK.intro (rmay_c r.right (atW [] (p + 1)) h.2.2) (by simp) (by simp) ?_; try simp [hz, hn])
            | (refine CallG.intro (fun _ => rmay_c r.right (atW [] (p + 1)) h.2.2) (by simp) (by simp) ?_; try simp [hz, hn])
            | ((with_reducible refine PreK.intro ?_ ?_); (next => (first | omega | (intros; first | omega | (refine ⟨by omega, ?_⟩; repeat (first | assumption | constructor)) | assumption))); intro _; try simp [hz, hn])
            | fail)
        | cons x w =>
          try simp [hz]
          repeat' (first
            | (refine CallX.pure (rat_c (x :: w) (p - 1) hw) (by simp) (by simp) ?_; try simp [hz])
            | (refine CallK.intro (rat_c (x :: w) (p - 1) hw) (by simp) (by simp) ?_; try simp [hz])
            | (refine CallG.intro (fun _ => rat_c (x :: w) (p - 1) hw) (by simp) (by simp) ?_; try simp [hz])
            | (refine CallX.pure (rat_c (x :: w) (p + 1) hw) (by simp) (by simp) ?_; try simp [hz])
            | (refine CallK.intro (rat_c (x :: w) (p + 1) hw) (by simp) (by simp) ?_; try simp [hz])
            | (refine CallG.intro (fun _ => rat_c (x :: w) (p + 1) hw) (by simp) (by simp) ?_; try simp [hz])
            | (refine CallX.pure (rmay_c r.left (atW (x :: w) (p - 1)) h.2.1) (by simp) (by simp) ?_; try simp [hz])
            | (refine CallK.intro (rmay_c r.left (atW (x :: w) (p - 1)) h.2.1) (by simp) (by simp) ?_; try simp [hz])
            | (refine CallG.intro (fun _ => rmay_c r.left (atW (x :: w) (p - 1)) h.2.1) (by simp) (by simp) ?_; try simp [hz])
            | (refine CallX.pure (rmay_c r.right (atW (x :: w) (p + 1)) h.2.2) (by simp) (by simp) ?_; try simp [hz])
            | (refine CallK.intro (rmay_c r.right (atW (x :: w) (p + 1)) h.2.2) (by simp) (by simp) ?_; try simp [hz])
            | (refine CallG.intro (fun _ => rmay_c r.right (atW (x :: w) (p + 1)) h.2.2) (by simp) (by simp) ?_; try simp [hz])
            | ((with_reducible refine PreK.intro ?_ ?_); (next => (first | omega | (intros; first | omega | (refine ⟨by omega, ?_⟩; repeat (first | assumption | constructor)) | assumption))); intro _; try simp [hz])
            | fail)
end Go.Proofs.Ytaooenmkofjafaa
end

section
/- Contracts: the reference's checks of rules, and its Apply. -/
namespace Go.Proofs.Ytaooenmkofjafaa
open Go.Abs Go
set_option maxRecDepth 20000
set_option maxHeartbeats 2000000
attribute [local irreducible] PreK CondK CallK CallG CallX LoopK

theorem isNeighbor_eq (n : Int) : isNeighbor n = (decide (-1 ≤ n) && decide (n ≤ 5)) := by
  unfold isNeighbor isSound
  by_cases h : n = -1
  · subst h; rfl
  · have : decide (0 ≤ n) = decide (-1 ≤ n) := by congr 1; simp only [eq_iff_iff]; omega
    simp [h, this]
theorem rIsSet_c (l : List Int) (hl : l.length ≤ 1000) : CallP Try.prog 214 [ints l, iv (-1), iv 5] (bv (setF none l)) := by
  refine C214 (by simp) ?_
  generalize hR : setF none l = R
  simp [A214]
  refine LoopK.by (fun i : Nat => ⟨[(7, iv i), (0, ints l), (1, iv (-1)), (2, iv 5)], []⟩) (fun i => l.length - i) (fun i => i ≤ l.length ∧ setF (prevOf l i) (l.drop i) = R) 0 (by simpa [prevOf] using hR) (by simp) ?_
  intro i Q' ⟨hi, hc⟩ hq he hr
  try simp 
  refine CondK.intro (fun h => ?_) (fun h => ?_)
  · simp at h
    rw [drop_cons l i h, setF_cons] at hc
    have e1 : ((i : Int) - 1).toNat = i - 1 := by omega
    have h1 : i - 1 < l.length := by omega
    simp [h]
    try simp [e1, h1, h]
    repeat' (first
      | (refine CallX.pure (within1_c (el l i) (-1) 5) (by simp) (by simp) ?_; try simp [e1, h1, h])
      | (refine CallK.intro (within1_c (el l i) (-1) 5) (by simp) (by simp) ?_; try simp [e1, h1, h])
      | (refine CallG.intro (fun _ => within1_c (el l i) (-1) 5) (by simp) (by simp) ?_; try simp [e1, h1, h])
      | ((with_reducible refine PreK.intro ?_ ?_); (next => (first | omega | (intros; first | omega | (refine ⟨by omega, ?_⟩; repeat (first | assumption | constructor)) | assumption))); intro _; try simp [e1, h1, h])
      | fail)
    have hprev : lessO (prevOf l i) (el l i) = (!(decide (0 < i) && decide (el l i ≤ el l (i - 1)))) := by
      unfold prevOf
      by_cases h0 : i = 0
      · simp [h0, lessO]
      · simp [h0, lessO, show 0 < i by omega]
        by_cases h6 : el l (i - 1) < el l i
        · simp [h6]
        · simp [h6]; omega
    rw [hprev] at hc
    have hnb : (!decide (-1 ≤ el l i) || !decide (el l i ≤ 5)) = !isNeighbor (el l i) := by rw [isNeighbor_eq]; simp
    rw [hnb]
    refine CondK.intro (fun h4 => ?_) (fun h4 => ?_)
    · have : (isNeighbor (el l i) && !(decide (0 < i) && decide (el l i ≤ el l (i - 1)))) = false := by
        revert h4; cases isNeighbor (el l i) <;> cases decide (0 < i) <;> cases decide (el l i ≤ el l (i - 1)) <;> simp
      rw [this] at hc
      simp at hc
      try simp 
      apply hr
      simp [hc]
    · have : (isNeighbor (el l i) && !(decide (0 < i) && decide (el l i ≤ el l (i - 1)))) = true := by
        revert h4; cases isNeighbor (el l i) <;> cases decide (0 < i) <;> cases decide (el l i ≤ el l (i - 1)) <;> simp
      rw [this] at hc
      simp at hc
      try simp 
      refine PreK.intro (by omega) fun _ => ?_
      try simp 
      exact hq (i + 1) _ ⟨by omega, by simpa [prevOf] using hc⟩ (by omega) (by simp)
  · simp at h
    rw [List.drop_eq_nil_of_le (by omega)] at hc
    simp [setF] at hc
    try simp 
    apply he
    simp [hc]
theorem rValidate_c (r : Rule) (h : r.small) : CallP Try.prog 165 [ruleV r] (iv (ruleErr r)) := by
  refine C165 (by simp) ?_
  generalize hR : ruleErr r = R
  unfold ruleErr at hR
  simp [A165]
  try simp 
  repeat' (first
    | (refine CallX.pure (within2_c r.frm (-1) 5) (by simp) (by simp) ?_; try simp )
    | (refine CallK.intro (within2_c r.frm (-1) 5) (by simp) (by simp) ?_; try simp )
    | (refine CallG.intro (fun _ => within2_c r.frm (-1) 5) (by simp) (by simp) ?_; try simp )
    | ((with_reducible refine PreK.intro ?_ ?_); (next => (first | omega | (intros; first | omega | (refine ⟨by omega, ?_⟩; repeat (first | assumption | constructor)) | assumption))); intro _; try simp )
    | fail)
  have hnb : (!decide (-1 ≤ r.frm) || !decide (r.frm ≤ 5)) = !isNeighbor r.frm := by rw [isNeighbor_eq]; simp
  rw [hnb]
  refine CondK.intro (fun h1 => ?_) (fun h1 => ?_)
  · simp at h1
    simp [h1] at hR
    simp [hR]
  · simp at h1
    simp only [h1, Bool.not_true, Bool.false_eq_true, if_false] at hR
    try simp 
    refine CondK.intro (fun h4 => ?_) (fun h4 => ?_)
    · simp at h4
      rw [if_pos (by omega)] at hR
      simp [hR]
    · simp at h4
      rw [if_neg (by omega)] at hR
      try simp 
      try simp 
      repeat' (first
        | (refine CallX.pure (isWord_c r.to h.1) (by simp) (by simp) ?_; try simp )
        | (refine CallK.intro (isWord_c r.to h.1) (by simp) (by simp) ?_; try simp )
        | (refine CallG.intro (fun _ => isWord_c r.to h.1) (by simp) (by simp) ?_; try simp )
        | (refine CallX.pure (rIsSet_c r.left h.2.1) (by simp) (by simp) ?_; try simp )
        | (refine CallK.intro (rIsSet_c r.left h.2.1) (by simp) (by simp) ?_; try simp )
        | (refine CallG.intro (fun _ => rIsSet_c r.left h.2.1) (by simp) (by simp) ?_; try simp )
        | (refine CallX.pure (rIsSet_c r.right h.2.2) (by simp) (by simp) ?_; try simp )
        | (refine CallK.intro (rIsSet_c r.right h.2.2) (by simp) (by simp) ?_; try simp )
        | (refine CallG.intro (fun _ => rIsSet_c r.right h.2.2) (by simp) (by simp) ?_; try simp )
        | ((with_reducible refine PreK.intro ?_ ?_); (next => (first | omega | (intros; first | omega | (refine ⟨by omega, ?_⟩; repeat (first | assumption | constructor)) | assumption))); intro _; try simp )
        | fail)
      refine CondK.intro (fun h5 => ?_) (fun h5 => ?_)
      · rw [if_pos (by simpa using h5)] at hR
        simp [hR]
      · rw [if_neg (by simpa using h5)] at hR
        have hneg : decide (r.frm < 0) = decide (r.frm = -1) := by
          rw [isNeighbor_eq] at h1
          simp at h1
          congr 1; simp only [eq_iff_iff]; omega
        obtain ⟨frm, to, left, right⟩ := r
        simp only at *
        match to, h4 with
        | [], _ =>
          try simp 
          repeat' (first
            | ((with_reducible refine PreK.intro ?_ ?_); (next => (first | omega | (intros; first | omega | (refine ⟨by omega, ?_⟩; repeat (first | assumption | constructor)) | assumption))); intro _; try simp )
            | fail)
          rw [hneg]
          refine CondK.intro (fun h6 => ?_) (fun h6 => ?_)
          · simp at h6
            simp [h6] at hR
            simp [hR]
          · simp at h6
            simp [h6] at hR
            simp [hR]
        | [a], _ =>
          try simp 
          repeat' (first
            | ((with_reducible refine PreK.intro ?_ ?_); (next => (first | omega | (intros; first | omega | (refine ⟨by omega, ?_⟩; repeat (first | assumption | constructor)) | assumption))); intro _; try simp )
            | fail)
          refine CondK.intro (fun h6 => ?_) (fun h6 => ?_)
          · simp at h6
            simp [h6] at hR
            simp [hR]
          · simp at h6
            simp [h6] at hR
            simp [hR]
        | [a, b], _ =>
          try simp 
          repeat' (first
            | ((with_reducible refine PreK.intro ?_ ?_); (next => (first | omega | (intros; first | omega | (refine ⟨by omega, ?_⟩; repeat (first | assumption | constructor)) | assumption))); intro _; try simp )
            | fail)
          refine CondK.intro (fun h6 => ?_) (fun h6 => ?_)
          · simp at h6
          · simp at hR
            simp [hR]
theorem rasked_c (r : Rule) (w : List Int) (h : r.small) (hw : w.length ≤ 1000) : CallP Try.prog 217 [ruleV r, ints w] (iv (wordedErr r w)) := by
  refine C217 (by simp) ?_
  generalize hR : wordedErr r w = R
  unfold wordedErr at hR
  simp [A217]
  try simp 
  repeat' (first
    | (refine CallX.pure (rValidate_c r h) (by simp) (by simp) ?_; try simp )
    | (refine CallK.intro (rValidate_c r h) (by simp) (by simp) ?_; try simp )
    | (refine CallG.intro (fun _ => rValidate_c r h) (by simp) (by simp) ?_; try simp )
    | ((with_reducible refine PreK.intro ?_ ?_); (next => (first | omega | (intros; first | omega | (refine ⟨by omega, ?_⟩; repeat (first | assumption | constructor)) | assumption))); intro _; try simp )
    | fail)
  refine CondK.intro (fun h1 => ?_) (fun h1 => ?_)
  · simp at h1
    simp [h1] at hR
    simp [hR]
  · simp at h1
    simp [h1] at hR
    try simp 
    try simp 
    repeat' (first
      | (refine CallX.pure (rValidateWord_c w hw) (by simp) (by simp) ?_; try simp )
      | (refine CallK.intro (rValidateWord_c w hw) (by simp) (by simp) ?_; try simp )
      | (refine CallG.intro (fun _ => rValidateWord_c w hw) (by simp) (by simp) ?_; try simp )
      | ((with_reducible refine PreK.intro ?_ ?_); (next => (first | omega | (intros; first | omega | (refine ⟨by omega, ?_⟩; repeat (first | assumption | constructor)) | assumption))); intro _; try simp )
      | fail)
    simp [hR]
theorem ruleErr_frm {r : Rule} (h : ruleErr r = 0) : isNeighbor r.frm = true := by
  unfold ruleErr at h
  by_cases h0 : (!isNeighbor r.frm) = true
  · rw [if_pos h0] at h; cases h
  · simpa using h0
theorem rApply_c (r : Rule) (w : List Int) (p : Int) (h : r.small) (hw : w.length ≤ 1000) : CallP Try.prog 177 [ruleV r, ints w, iv p] (.tup [ints (applyM r w p).1, iv (applyM r w p).2]) := by
  refine C177 (by simp) ?_
  simp [A177]
  try simp 
  repeat' (first
    | (refine CallX.pure (rasked_c r w h hw) (by simp) (by simp) ?_; try simp )
    | (refine CallK.intro (rasked_c r w h hw) (by simp) (by simp) ?_; try simp )
    | (refine CallG.intro (fun _ => rasked_c r w h hw) (by simp) (by simp) ?_; try simp )
    | ((with_reducible refine PreK.intro ?_ ?_); (next => (first | omega | (intros; first | omega | (refine ⟨by omega, ?_⟩; repeat (first | assumption | constructor)) | assumption))); intro _; try simp )
    | fail)
  refine CondK.intro (fun h1 => ?_) (fun h1 => ?_)
  · simp at h1
    simp [applyM, h1]
  · simp at h1
    obtain ⟨h2, h3⟩ := wordedErr_zero h1
    obtain ⟨h4, h5⟩ := wordErr_zero h3
    have hf : -1 ≤ r.frm := by have := ruleErr_frm h2; simp [isNeighbor, isSound] at this; omega
    try simp 
    repeat' (first
      | (refine CallX.pure (risPlace_c r w p h hf hw) (by simp) (by simp) ?_; try simp )
      | (refine CallK.intro (risPlace_c r w p h hf hw) (by simp) (by simp) ?_; try simp )
      | (refine CallG.intro (fun _ => risPlace_c r w p h hf hw) (by simp) (by simp) ?_; try simp )
      | ((with_reducible refine PreK.intro ?_ ?_); (next => (first | omega | (intros; first | omega | (refine ⟨by omega, ?_⟩; repeat (first | assumption | constructor)) | assumption))); intro _; try simp )
      | fail)
    refine CondK.intro (fun h6 => ?_) (fun h6 => ?_)
    · simp at h6
      simp [applyM, h1, h6]
    · simp at h6
      have h6' := h6
      simp only [placeB, Bool.and_eq_true, decide_eq_true_eq] at h6'
      have hl := long_cases r
      obtain ⟨n, rfl⟩ := Int.eq_ofNat_of_zero_le h6'.1
      have ht := ruleErr_to h2
      have e1 : n + (long r).toNat ≤ w.length := by omega
      have e2 := rput_c r w n e1 (by omega) (by omega) (by omega)
      try simp 
      repeat' (first
        | (refine CallX.pure (e2) (by simp) (by simp) ?_; try simp )
        | (refine CallK.intro (e2) (by simp) (by simp) ?_; try simp )
        | (refine CallG.intro (fun _ => e2) (by simp) (by simp) ?_; try simp )
        | (refine CallX.pure (rtold_c (putW r w n)) (by simp) (by simp) ?_; try simp )
        | (refine CallK.intro (rtold_c (putW r w n)) (by simp) (by simp) ?_; try simp )
        | (refine CallG.intro (fun _ => rtold_c (putW r w n)) (by simp) (by simp) ?_; try simp )
        | ((with_reducible refine PreK.intro ?_ ?_); (next => (first | omega | (intros; first | omega | (refine ⟨by omega, ?_⟩; repeat (first | assumption | constructor)) | assumption))); intro _; try simp )
        | fail)
      by_cases h7 : 8 < (putW r w n).length
      · simp [applyM, h1, h6, h7, shortErr]
      · simp [applyM, h1, h6, h7, shortErr]
end Go.Proofs.Ytaooenmkofjafaa
end

section
/- Contracts: systems and their steps. -/
namespace Go.Proofs.Ytaooenmkofjafaa
open Go.Abs Go
set_option maxRecDepth 20000
set_option maxHeartbeats 2000000
attribute [local irreducible] PreK CondK CallK CallG CallX LoopK

def Sys.small (s : List Rule) : Prop := s.length ≤ 1000 ∧ ∀ r ∈ s, r.small
theorem Sys.small.el {s : List Rule} (h : Sys.small s) {i : Nat} (hi : i < s.length) : (el s i).small := by
  rw [el_eq s i hi]; exact h.2 _ (List.getElem_mem hi)
@[simp] def moveV (x : Move) : AV := .agg [iv x.step.rule, iv x.step.place, ints x.word]
@[simp] def movesV (l : List Move) : AV := .seq 3 (l.map moveV) false
@[simp] theorem nth_move (l : List Move) (k : Nat) (h : k < l.length) : nth (l.map moveV) k = moveV (el l k) := nth_map moveV l k h
theorem Validate_c (s : List Rule) (h : Sys.small s) : CallP Try.prog 83 [rulesV s] (iv (sysErr s)) := by
  refine C83 (by simp) ?_
  generalize hR : sysErr s = R
  unfold sysErr at hR
  have hl := h.1
  simp [A83]
  refine CondK.intro (fun h1 => ?_) (fun h1 => ?_)
  · simp at h1
    rw [if_pos (by omega)] at hR
    simp [hR]
  · simp at h1
    rw [if_neg (by omega)] at hR
    try simp 
    refine LoopK.by (fun i : Nat => ⟨[(11, iv i), (10, iv s.length), (9, rulesV s)], []⟩) (fun i => s.length - i) (fun i => i ≤ s.length ∧ firstErr (s.drop i) = R) 0 (by simpa using hR) (by simp) ?_
    intro i Q' ⟨hi, hc⟩ hq he hr
    try simp 
    refine CondK.intro (fun h2 => ?_) (fun h2 => ?_)
    · simp at h2
      rw [drop_cons s i h2, firstErr] at hc
      simp [h2]
      try simp 
      repeat' (first
        | (refine CallX.pure (validate_s (h.el h2)) (by simp) (by simp) ?_; try simp )
        | (refine CallK.intro (validate_s (h.el h2)) (by simp) (by simp) ?_; try simp )
        | (refine CallG.intro (fun _ => validate_s (h.el h2)) (by simp) (by simp) ?_; try simp )
        | ((with_reducible refine PreK.intro ?_ ?_); (next => (first | omega | (intros; first | omega | (refine ⟨by omega, ?_⟩; repeat (first | assumption | constructor)) | assumption))); intro _; try simp )
        | fail)
      refine CondK.intro (fun h3 => ?_) (fun h3 => ?_)
      · simp at h3
        simp [h3] at hc
        try simp 
        apply hr
        simp [hc]
      · simp at h3
        simp [h3] at hc
        try simp 
        refine PreK.intro (by omega) fun _ => ?_
        try simp 
        exact hq (i + 1) _ ⟨by omega, hc⟩ (by omega) (by simp)
    · simp at h2
      rw [List.drop_eq_nil_of_le (by omega)] at hc
      simp [firstErr] at hc
      try simp 
      apply he
      simp [hc]
theorem rsValidate_c (s : List Rule) (h : Sys.small s) : CallP Try.prog 84 [rulesV s] (iv (sysErr s)) := by
  refine C84 (by simp) ?_
  generalize hR : sysErr s = R
  unfold sysErr at hR
  have hl := h.1
  simp [A84]
  refine CondK.intro (fun h1 => ?_) (fun h1 => ?_)
  · simp at h1
    rw [if_pos (by omega)] at hR
    simp [hR]
  · simp at h1
    rw [if_neg (by omega)] at hR
    try simp 
    refine LoopK.by (fun i : Nat => ⟨[(3, iv i), (0, rulesV s)], []⟩) (fun i => s.length - i) (fun i => i ≤ s.length ∧ firstErr (s.drop i) = R) 0 (by simpa using hR) (by simp) ?_
    intro i Q' ⟨hi, hc⟩ hq he hr
    try simp 
    refine CondK.intro (fun h2 => ?_) (fun h2 => ?_)
    · simp at h2
      rw [drop_cons s i h2, firstErr] at hc
      simp [h2]
      try simp 
      repeat' (first
        | (refine CallX.pure (rValidate_c (el s i) (h.el h2)) (by simp) (by simp) ?_; try simp )
        | (refine CallK.intro (rValidate_c (el s i) (h.el h2)) (by simp) (by simp) ?_; try simp )
        | (refine CallG.intro (fun _ => rValidate_c (el s i) (h.el h2)) (by simp) (by simp) ?_; try simp )
        | ((with_reducible refine PreK.intro ?_ ?_); (next => (first | omega | (intros; first | omega | (refine ⟨by omega, ?_⟩; repeat (first | assumption | constructor)) | assumption))); intro _; try simp )
        | fail)
      refine CondK.intro (fun h3 => ?_) (fun h3 => ?_)
      · simp at h3
        simp [h3] at hc
        try simp 
        apply hr
        simp [hc]
      · simp at h3
        simp [h3] at hc
        try simp 
        refine PreK.intro (by omega) fun _ => ?_
        try simp 
        exact hq (i + 1) _ ⟨by omega, hc⟩ (by omega) (by simp)
    · simp at h2
      rw [List.drop_eq_nil_of_le (by omega)] at hc
      simp [firstErr] at hc
      try simp 
      apply he
      simp [hc]
def firstW : List (List Int) → Int
  | [] => 0
  | w :: l => if wordErr w ≠ 0 then wordErr w else firstW l
def checkErr (s : List Rule) (ws : List (List Int)) : Int := if sysErr s ≠ 0 then sysErr s else firstW ws
theorem check_c (s : List Rule) (ws : List (List Int)) (h : Sys.small s) (hn : ws.length ≤ 1000) (hw : ∀ w ∈ ws, w.length ≤ 1000) : CallP Try.prog 140 [rulesV s, .seq 1 (ws.map ints) false] (iv (checkErr s ws)) := by
  refine C140 (by simp) ?_
  generalize hR : checkErr s ws = R
  unfold checkErr at hR
  simp [A140]
  try simp 
  repeat' (first
    | (refine CallX.pure (Validate_c s h) (by simp) (by simp) ?_; try simp )
    | (refine CallK.intro (Validate_c s h) (by simp) (by simp) ?_; try simp )
    | (refine CallG.intro (fun _ => Validate_c s h) (by simp) (by simp) ?_; try simp )
    | ((with_reducible refine PreK.intro ?_ ?_); (next => (first | omega | (intros; first | omega | (refine ⟨by omega, ?_⟩; repeat (first | assumption | constructor)) | assumption))); intro _; try simp )
    | fail)
  refine CondK.intro (fun h1 => ?_) (fun h1 => ?_)
  · simp at h1
    simp [h1] at hR
    simp [hR]
  · simp at h1
    simp [h1] at hR
    try simp 
    refine LoopK.by (fun i : Nat => ⟨[(16, iv i), (15, iv ws.length), (14, .seq 1 (ws.map ints) false)], []⟩) (fun i => ws.length - i) (fun i => i ≤ ws.length ∧ firstW (ws.drop i) = R) 0 (by simpa using hR) (by simp) ?_
    intro i Q' ⟨hi, hc⟩ hq he hr
    try simp 
    refine CondK.intro (fun h2 => ?_) (fun h2 => ?_)
    · simp at h2
      rw [drop_cons ws i h2, firstW] at hc
      have hwi : (el ws i).length ≤ big := by
        have := hw (el ws i) (by rw [el_eq ws i h2]; exact List.getElem_mem h2)
        simp only [big]; omega
      simp [h2]
      try simp 
      repeat' (first
        | (refine CallX.pure (validateWord_c (el ws i) hwi) (by simp) (by simp) ?_; try simp )
        | (refine CallK.intro (validateWord_c (el ws i) hwi) (by simp) (by simp) ?_; try simp )
        | (refine CallG.intro (fun _ => validateWord_c (el ws i) hwi) (by simp) (by simp) ?_; try simp )
        | ((with_reducible refine PreK.intro ?_ ?_); (next => (first | omega | (intros; first | omega | (refine ⟨by omega, ?_⟩; repeat (first | assumption | constructor)) | assumption))); intro _; try simp )
        | fail)
      refine CondK.intro (fun h3 => ?_) (fun h3 => ?_)
      · simp at h3
        simp [h3] at hc
        try simp 
        apply hr
        simp [hc]
      · simp at h3
        simp [h3] at hc
        try simp 
        refine PreK.intro (by omega) fun _ => ?_
        try simp 
        exact hq (i + 1) _ ⟨by omega, hc⟩ (by omega) (by simp)
    · simp at h2
      rw [List.drop_eq_nil_of_le (by omega)] at hc
      simp [firstW] at hc
      try simp 
      apply he
      simp [hc]
theorem check_one (s : List Rule) (w : List Int) : checkErr s [w] = swErr s w := by
  unfold checkErr swErr
  by_cases h : sysErr s = 0
  · by_cases h2 : wordErr w = 0 <;> simp [h, h2, firstW]
  · simp [h]
theorem rworded_c (s : List Rule) (w v : List Int) (h : Sys.small s) (hw : w.length ≤ 1000) (hv : v.length ≤ 1000) : CallP Try.prog 162 [rulesV s, ints w, ints v] (iv (checkErr s [w, v])) := by
  refine C162 (by simp) ?_
  generalize hR : checkErr s [w, v] = R
  unfold checkErr at hR
  simp [A162]
  try simp 
  repeat' (first
    | (refine CallX.pure (rsValidate_c s h) (by simp) (by simp) ?_; try simp )
    | (refine CallK.intro (rsValidate_c s h) (by simp) (by simp) ?_; try simp )
    | (refine CallG.intro (fun _ => rsValidate_c s h) (by simp) (by simp) ?_; try simp )
    | ((with_reducible refine PreK.intro ?_ ?_); (next => (first | omega | (intros; first | omega | (refine ⟨by omega, ?_⟩; repeat (first | assumption | constructor)) | assumption))); intro _; try simp )
    | fail)
  refine CondK.intro (fun h1 => ?_) (fun h1 => ?_)
  · simp at h1
    simp [h1] at hR
    simp [hR]
  · simp at h1
    simp [h1] at hR
    try simp 
    try simp 
    repeat' (first
      | (refine CallX.pure (rValidateWord_c w hw) (by simp) (by simp) ?_; try simp )
      | (refine CallK.intro (rValidateWord_c w hw) (by simp) (by simp) ?_; try simp )
      | (refine CallG.intro (fun _ => rValidateWord_c w hw) (by simp) (by simp) ?_; try simp )
      | ((with_reducible refine PreK.intro ?_ ?_); (next => (first | omega | (intros; first | omega | (refine ⟨by omega, ?_⟩; repeat (first | assumption | constructor)) | assumption))); intro _; try simp )
      | fail)
    refine CondK.intro (fun h2 => ?_) (fun h2 => ?_)
    · simp at h2
      simp [h2, firstW] at hR
      simp [hR]
    · simp at h2
      simp [h2, firstW] at hR
      try simp 
      try simp 
      repeat' (first
        | (refine CallX.pure (rValidateWord_c v hv) (by simp) (by simp) ?_; try simp )
        | (refine CallK.intro (rValidateWord_c v hv) (by simp) (by simp) ?_; try simp )
        | (refine CallG.intro (fun _ => rValidateWord_c v hv) (by simp) (by simp) ?_; try simp )
        | ((with_reducible refine PreK.intro ?_ ?_); (next => (first | omega | (intros; first | omega | (refine ⟨by omega, ?_⟩; repeat (first | assumption | constructor)) | assumption))); intro _; try simp )
        | fail)
      rw [← hR]
      by_cases h3 : wordErr v = 0 <;> simp [h3]
theorem check_nil (s : List Rule) (w : List Int) : checkErr s [w, []] = swErr s w := by
  rw [← check_one]
  unfold checkErr
  by_cases h : sysErr s = 0
  · have : wordErr [] = 0 := by decide
    simp [h, firstW, this]
  · simp [h]
end Go.Proofs.Ytaooenmkofjafaa
end

section
/- Contracts: the steps of a word. -/
namespace Go.Proofs.Ytaooenmkofjafaa
open Go.Abs Go
set_option maxRecDepth 20000
set_option maxHeartbeats 2000000
attribute [local irreducible] PreK CondK CallK CallG CallX LoopK

/-- The steps of a rule at given places. -/
def moveI (r : Rule) (w : List Int) (k : Nat) (p : Int) : List Move := if (applyM r w p).2 = 0 then [⟨⟨k, p⟩, (applyM r w p).1⟩] else []
def movesP (r : Rule) (w : List Int) (k : Nat) : List Int → List Move
  | [] => []
  | p :: l => moveI r w k p ++ movesP r w k l
theorem applyM_not {r : Rule} {w : List Int} {p : Int} (h : wordedErr r w = 0) (hp : placeB r w p = false) : (applyM r w p).2 = 6 := by simp [applyM, h, hp]
theorem moveI_not {r : Rule} {w : List Int} {k : Nat} {p : Int} (h : wordedErr r w = 0) (hp : placeB r w p = false) : moveI r w k p = [] := by simp [moveI, applyM_not h hp]
theorem movesP_places {r : Rule} {w : List Int} {k : Nat} (h : wordedErr r w = 0) : ∀ (n i : Nat), i + n ≤ w.length + 1 - (long r).toNat → movesP r w k (placesF r w i n) = movesR r w k i n
  | 0, i, _ => rfl
  | n + 1, i, hn => by
    have ih := movesP_places (k := k) h n (i + 1) (by omega)
    have hl := long_cases r
    unfold placesF movesR
    by_cases ha : isAt r w i = true
    · rw [if_pos ha, movesP, ih]; rfl
    · rw [if_neg ha, ih]
      have : placeB r w i = false := by
        unfold placeB
        have e : isAt r w ((i : Int).toNat) = false := by simpa using ha
        rw [e]; simp
      have e2 : moveAt r w k i = moveI r w k i := rfl
      rw [e2, moveI_not h this, List.nil_append]
theorem movesR_end {r : Rule} {w : List Int} {k : Nat} (h : wordedErr r w = 0) : ∀ (n i : Nat), w.length + 1 - (long r).toNat ≤ i → movesR r w k i n = []
  | 0, i, _ => rfl
  | n + 1, i, hi => by
    rw [movesR, movesR_end (k := k) h n (i + 1) (by omega)]
    have : placeB r w i = false := by
      unfold placeB
      have hl := long_cases r
      have : ¬ ((i : Int) + long r ≤ w.length) := by omega
      simp [this]
    have e2 : moveAt r w k i = moveI r w k i := rfl
    rw [e2, moveI_not h this]
    rfl
theorem movesR_add {r : Rule} {w : List Int} {k : Nat} : ∀ (n m i : Nat), movesR r w k i (n + m) = movesR r w k i n ++ movesR r w k (i + n) m
  | 0, m, i => by simp [movesR]
  | n + 1, m, i => by
    rw [show n + 1 + m = (n + m) + 1 by omega, movesR, movesR, movesR_add n m (i + 1), List.append_assoc, show i + 1 + n = i + (n + 1) by omega]
theorem movesP_all {r : Rule} {w : List Int} {k : Nat} (h : wordedErr r w = 0) : movesP r w k (placesM r w) = movesR r w k 0 (w.length + 1) := by
  have hl := long_cases r
  have e : w.length + 1 = (w.length + 1 - (long r).toNat) + (long r).toNat := by omega
  have e1 := movesR_end (k := k) h (long r).toNat (0 + (w.length + 1 - (long r).toNat)) (by omega)
  rw [e, movesR_add, e1, List.append_nil]
  exact movesP_places h _ 0 (by omega)
theorem moveI_len (r : Rule) (w : List Int) (k : Nat) (p : Int) : (moveI r w k p).length ≤ 1 := by unfold moveI; split <;> simp
theorem firstErr_el {s : List Rule} (h : firstErr s = 0) : ∀ r ∈ s, ruleErr r = 0 := by
  induction s with
  | nil => intro r hr; cases hr
  | cons r0 s ih =>
    unfold firstErr at h
    by_cases h0 : ruleErr r0 = 0
    · simp [h0] at h
      intro r hr
      rcases List.mem_cons.1 hr with rfl | hr
      · exact h0
      · exact ih h r hr
    · simp [h0] at h
theorem sysErr_zero {s : List Rule} (h : sysErr s = 0) : s.length ≤ 6 ∧ ∀ r ∈ s, ruleErr r = 0 := by
  unfold sysErr at h
  by_cases h1 : 6 < s.length
  · simp [h1] at h
  · simp [h1] at h
    exact ⟨by omega, firstErr_el h⟩
theorem wordedErr_of {r : Rule} {w : List Int} (h : ruleErr r = 0) (hw : wordErr w = 0) : wordedErr r w = 0 := by simp [wordedErr, h, hw]

theorem moves_c (s : List Rule) (w : List Int) (h : Sys.small s) (hs : sysErr s = 0) (hw : wordErr w = 0) : CallP Try.prog 141 [rulesV s, ints w] (movesV (movesM s w)) := by
  refine C141 (by simp) ?_
  generalize hR : movesM s w = R
  unfold movesM at hR
  obtain ⟨hs6, hsr⟩ := sysErr_zero hs
  obtain ⟨hw8, hww⟩ := wordErr_zero hw
  have hw1 : w.length ≤ 1000 := by omega
  simp [A141]
  refine LoopK.by (ι := Nat × Nat × List Move) (fun i => ⟨[(16, iv i.1), (15, iv s.length), (14, rulesV s), (1, ints w), (5, .sl 5 i.2.1 0 i.2.2.length)], [(5, some ⟨3, i.2.2.map moveV, i.2.1, false⟩)]⟩) (fun i => s.length - i.1)
    (fun i => i.1 ≤ s.length ∧ i.2.2.length ≤ 10 * i.1 ∧ i.2.2 ++ movesF w i.1 (s.drop i.1) = R) (0, 1, []) (by simpa using hR) (by simp) ?_
  intro ⟨i, ver, acc⟩ Q' ⟨hi, ha, hc⟩ hq he hr
  dsimp only at hi ha hc
  try simp 
  refine CondK.intro (fun h1 => ?_) (fun h1 => ?_)
  · simp at h1
    have hri : ruleErr (el s i) = 0 := hsr _ (by rw [el_eq s i h1]; exact List.getElem_mem h1)
    have hwi := wordedErr_of hri hw
    have hsm := h.el h1
    rw [drop_cons s i h1, movesF, ← movesP_all hwi] at hc
    have hpl := placesM_len (el s i) w
    have hP : PlacesM (el s i) w = (placesM (el s i) w, 0) := by simp [PlacesM, hwi]
    have hPc : CallP Try.prog 60 [ruleV (el s i), ints w] (.tup [ints (placesM (el s i) w), iv 0]) := by
      have := Places_c (el s i) w hsm hw1
      rwa [hP] at this
    generalize placesM (el s i) w = ps at hc hpl hPc
    simp [h1]
    try simp 
    repeat' (first
      | (refine CallX.pure (hPc) (by simp) (by simp) ?_; try simp )
      | (refine CallK.intro (hPc) (by simp) (by simp) ?_; try simp )
      | (refine CallG.intro (fun _ => hPc) (by simp) (by simp) ?_; try simp )
      | ((with_reducible refine PreK.intro ?_ ?_); (next => (first | omega | (intros; first | omega | (refine ⟨by omega, ?_⟩; repeat (first | assumption | constructor)) | assumption))); intro _; try simp )
      | fail)
    refine LoopK.by (ι := Nat × Nat × List Move) (fun j => ⟨[(29, iv j.1), (28, iv ps.length), (27, ints ps), (6, iv i), (7, .pt 7 1 0 0), (16, iv i), (15, iv s.length), (14, rulesV s), (1, ints w), (5, .sl 5 j.2.1 0 j.2.2.length)],
      [(5, some ⟨3, j.2.2.map moveV, j.2.1, false⟩), (7, some ⟨4, [ruleV (el s i)], 1, true⟩)]⟩) (fun j => ps.length - j.1)
      (fun j => j.1 ≤ ps.length ∧ j.2.2.length ≤ 10 * i + j.1 ∧ j.2.2 ++ (movesP (el s i) w i (ps.drop j.1) ++ movesF w (i + 1) (s.drop (i + 1))) = R) (0, ver, acc) (by simp; exact ⟨ha, hc⟩) (by simp) ?_
    intro ⟨j, ver', acc'⟩ Q'' ⟨hj, ha', hc'⟩ hq' he' hr'
    dsimp only at hj ha' hc'
    try simp 
    refine CondK.intro (fun h2 => ?_) (fun h2 => ?_)
    · simp at h2
      rw [drop_cons ps j h2, movesP] at hc'
      simp [h2]
      try simp 
      repeat' (first
        | (refine CallX.pure (Apply_c (el s i) w (el ps j) hsm hw1) (by simp) (by simp) ?_; try simp )
        | (refine CallK.intro (Apply_c (el s i) w (el ps j) hsm hw1) (by simp) (by simp) ?_; try simp )
        | (refine CallG.intro (fun _ => Apply_c (el s i) w (el ps j) hsm hw1) (by simp) (by simp) ?_; try simp )
        | ((with_reducible refine PreK.intro ?_ ?_); (next => (first | omega | (intros; first | omega | (refine ⟨by omega, ?_⟩; repeat (first | assumption | constructor)) | assumption))); intro _; try simp )
        | fail)
      refine CondK.intro (fun h3 => ?_) (fun h3 => ?_)
      · simp at h3
        have e : moveI (el s i) w i (el ps j) = [⟨⟨i, el ps j⟩, (applyM (el s i) w (el ps j)).1⟩] := by simp [moveI, h3]
        rw [e] at hc'
        try simp 
        repeat' (first
          | ((with_reducible refine PreK.intro ?_ ?_); (next => (first | omega | (intros; first | omega | (refine ⟨by omega, ?_⟩; repeat (first | assumption | constructor)) | assumption))); intro _; try simp )
          | fail)
        exact hq' (j + 1, ver' + 1, acc' ++ [⟨⟨i, el ps j⟩, (applyM (el s i) w (el ps j)).1⟩]) _ ⟨by dsimp only; omega, by simp; omega, by simpa using hc'⟩ (by dsimp only; omega) (by simp)
      · simp at h3
        have e : moveI (el s i) w i (el ps j) = [] := by simp [moveI, h3]
        rw [e] at hc'
        try simp 
        repeat' (first
          | ((with_reducible refine PreK.intro ?_ ?_); (next => (first | omega | (intros; first | omega | (refine ⟨by omega, ?_⟩; repeat (first | assumption | constructor)) | assumption))); intro _; try simp )
          | fail)
        exact hq' (j + 1, ver', acc') _ ⟨by dsimp only; omega, by dsimp only; omega, by simpa using hc'⟩ (by dsimp only; omega) (by simp)
    · simp at h2
      rw [List.drop_eq_nil_of_le (by omega), movesP] at hc'
      try simp 
      apply he'
      try simp 
      repeat' (first
        | ((with_reducible refine PreK.intro ?_ ?_); (next => (first | omega | (intros; first | omega | (refine ⟨by omega, ?_⟩; repeat (first | assumption | constructor)) | assumption))); intro _; try simp )
        | fail)
      exact hq (i + 1, ver', acc') _ ⟨by dsimp only; omega, by dsimp only; omega, by simpa using hc'⟩ (by dsimp only; omega) (by simp)
  · simp at h1
    rw [List.drop_eq_nil_of_le (by omega)] at hc
    simp [movesF] at hc
    try simp 
    apply he
    simp [hc]
@[simp] def wordsV (l : List (List Int)) : AV := .seq 1 (l.map ints) false
theorem rsteps_c (s : List Rule) (w : List Int) (h : Sys.small s) (hs : s.length ≤ 6) (hw : w.length ≤ 8) :
    CallP Try.prog 164 [rulesV s, ints w] (.tup [stepsV ((movesM s w).map (·.step)), wordsV ((movesM s w).map (·.word))]) := by
  refine C164 (by simp) ?_
  generalize hR : movesM s w = R
  unfold movesM at hR
  have hw1 : w.length ≤ 1000 := by omega
  simp [A164]
  refine LoopK.by (ι := Nat × Nat × Nat × List Move) (fun i => ⟨[(8, iv i.1), (0, rulesV s), (1, ints w), (6, .sl 6 i.2.1 0 i.2.2.2.length), (7, .sl 7 i.2.2.1 0 i.2.2.2.length)], [(6, some ⟨2, i.2.2.2.map (fun x => stepV x.step), i.2.1, false⟩), (7, some ⟨1, i.2.2.2.map (fun x => ints x.word), i.2.2.1, false⟩)]⟩) (fun i => s.length - i.1)
    (fun i => i.1 ≤ s.length ∧ i.2.2.2.length ≤ 10 * i.1 ∧ i.2.2.2 ++ movesF w i.1 (s.drop i.1) = R) (0, 1, 1, []) (by simpa using hR) (by simp) ?_
  intro ⟨i, v1, v2, acc⟩ Q' ⟨hi, ha, hc⟩ hq he hr
  dsimp only at hi ha hc
  try simp 
  refine CondK.intro (fun h1 => ?_) (fun h1 => ?_)
  · simp at h1
    have hsm := h.el h1
    rw [drop_cons s i h1, movesF] at hc
    simp [h1]
    refine LoopK.by (ι := Nat × Nat × Nat × List Move) (fun j => ⟨[(9, iv j.1), (8, iv i), (0, rulesV s), (1, ints w), (6, .sl 6 j.2.1 0 j.2.2.2.length), (7, .sl 7 j.2.2.1 0 j.2.2.2.length)], [(6, some ⟨2, j.2.2.2.map (fun x => stepV x.step), j.2.1, false⟩), (7, some ⟨1, j.2.2.2.map (fun x => ints x.word), j.2.2.1, false⟩)]⟩) (fun j => w.length + 1 - j.1)
      (fun j => j.1 ≤ w.length + 1 ∧ j.2.2.2.length ≤ 10 * i + j.1 ∧ j.2.2.2 ++ (movesR (el s i) w i j.1 (w.length + 1 - j.1) ++ movesF w (i + 1) (s.drop (i + 1))) = R) (0, v1, v2, acc) (by simp; exact ⟨ha, hc⟩) (by simp) ?_
    intro ⟨j, w1, w2, acc'⟩ Q'' ⟨hj, ha', hc'⟩ hq' he' hr'
    dsimp only at hj ha' hc'
    try simp 
    refine CondK.intro (fun h2 => ?_) (fun h2 => ?_)
    · simp at h2
      rw [show w.length + 1 - j = (w.length + 1 - (j + 1)) + 1 by omega, movesR] at hc'
      simp [h1]
      try simp 
      repeat' (first
        | (refine CallX.pure (rApply_c (el s i) w j hsm hw1) (by simp) (by simp) ?_; try simp )
        | (refine CallK.intro (rApply_c (el s i) w j hsm hw1) (by simp) (by simp) ?_; try simp )
        | (refine CallG.intro (fun _ => rApply_c (el s i) w j hsm hw1) (by simp) (by simp) ?_; try simp )
        | ((with_reducible refine PreK.intro ?_ ?_); (next => (first | omega | (intros; first | omega | (refine ⟨by omega, ?_⟩; repeat (first | assumption | constructor)) | assumption))); intro _; try simp )
        | fail)
      refine CondK.intro (fun h3 => ?_) (fun h3 => ?_)
      · simp at h3
        have e : moveAt (el s i) w i j = [⟨⟨i, j⟩, (applyM (el s i) w j).1⟩] := by simp [moveAt, h3]
        rw [e] at hc'
        try simp 
        repeat' (first
          | ((with_reducible refine PreK.intro ?_ ?_); (next => (first | omega | (intros; first | omega | (refine ⟨by omega, ?_⟩; repeat (first | assumption | constructor)) | assumption))); intro _; try simp )
          | fail)
        exact hq' (j + 1, w1 + 1, w2 + 1, acc' ++ [⟨⟨i, j⟩, (applyM (el s i) w j).1⟩]) _ ⟨by dsimp only; omega, by simp; omega, by simpa using hc'⟩ (by dsimp only; omega) (by simp)
      · simp at h3
        have e : moveAt (el s i) w i j = [] := by simp [moveAt, h3]
        rw [e] at hc'
        try simp 
        repeat' (first
          | ((with_reducible refine PreK.intro ?_ ?_); (next => (first | omega | (intros; first | omega | (refine ⟨by omega, ?_⟩; repeat (first | assumption | constructor)) | assumption))); intro _; try simp )
          | fail)
        exact hq' (j + 1, w1, w2, acc') _ ⟨by dsimp only; omega, by dsimp only; omega, by simpa using hc'⟩ (by dsimp only; omega) (by simp)
    · simp at h2
      rw [show w.length + 1 - j = 0 by omega, movesR] at hc'
      try simp 
      apply he'
      try simp 
      repeat' (first
        | ((with_reducible refine PreK.intro ?_ ?_); (next => (first | omega | (intros; first | omega | (refine ⟨by omega, ?_⟩; repeat (first | assumption | constructor)) | assumption))); intro _; try simp )
        | fail)
      exact hq (i + 1, w1, w2, acc') _ ⟨by dsimp only; omega, by dsimp only; omega, by simpa using hc'⟩ (by dsimp only; omega) (by simp)
  · simp at h1
    rw [List.drop_eq_nil_of_le (by omega)] at hc
    simp [movesF] at hc
    try simp 
    apply he
    simp [hc]
end Go.Proofs.Ytaooenmkofjafaa
end

section
/- Contracts: Steps, and which rule is special. -/
namespace Go.Proofs.Ytaooenmkofjafaa
open Go.Abs Go
set_option maxRecDepth 20000
set_option maxHeartbeats 2000000
attribute [local irreducible] PreK CondK CallK CallG CallX LoopK
attribute [local simp] avsEq avEq akind teq vkind vEq

theorem swErr_zero {s : List Rule} {w : List Int} (h : swErr s w = 0) : sysErr s = 0 ∧ wordErr w = 0 := by
  unfold swErr at h
  by_cases h1 : sysErr s = 0
  · simp [h1] at h; exact ⟨h1, h⟩
  · simp [h1] at h
theorem movesR_len (r : Rule) (w : List Int) (k : Nat) : ∀ (n i : Nat), (movesR r w k i n).length ≤ n
  | 0, i => by simp [movesR]
  | n + 1, i => by
    have h1 := movesR_len r w k n (i + 1)
    have h2 := moveI_len r w k i
    have e : moveAt r w k i = moveI r w k i := rfl
    rw [movesR, e]
    simp; omega
theorem movesF_len (w : List Int) : ∀ (s : List Rule) (k : Nat), (movesF w k s).length ≤ s.length * (w.length + 1)
  | [], k => by simp [movesF]
  | r :: s, k => by
    have h1 := movesF_len w s (k + 1)
    have h2 := movesR_len r w k (w.length + 1) 0
    rw [movesF]
    simp only [List.length_append, List.length_cons, Nat.add_mul, Nat.one_mul]
    omega
theorem movesM_len {s : List Rule} {w : List Int} (hs : sysErr s = 0) (hw : wordErr w = 0) : (movesM s w).length ≤ 54 := by
  have h1 := (sysErr_zero hs).1
  have h2 := (wordErr_zero hw).1
  have h3 := movesF_len w s 0
  have h4 : s.length * (w.length + 1) ≤ 6 * 9 := Nat.mul_le_mul h1 (by omega)
  unfold movesM; omega
theorem Steps_c (s : List Rule) (w : List Int) (h : Sys.small s) (hw : w.length ≤ 1000) : CallP Try.prog 80 [rulesV s, ints w] (.tup [stepsV (stepsM s w), iv (swErr s w)]) := by
  refine C80 (by simp) ?_
  have hck := check_c s [w] h (by simp) (by simpa using hw)
  rw [check_one] at hck
  simp [A80]
  try simp 
  repeat' (first
    | (refine CallX.pure (hck) (by simp) (by simp) ?_; try simp )
    | (refine CallK.intro (hck) (by simp) (by simp) ?_; try simp )
    | (refine CallG.intro (fun _ => hck) (by simp) (by simp) ?_; try simp )
    | ((with_reducible refine PreK.intro ?_ ?_); (next => (first | omega | (intros; first | omega | (refine ⟨by omega, ?_⟩; repeat (first | assumption | constructor)) | assumption))); intro _; try simp )
    | fail)
  refine CondK.intro (fun h1 => ?_) (fun h1 => ?_)
  · simp at h1
    simp [stepsM, h1]
  · simp at h1
    obtain ⟨h2, h3⟩ := swErr_zero h1
    have hlen := movesM_len h2 h3
    have hmv := moves_c s w h h2 h3
    have hst : stepsM s w = (movesM s w).map (·.step) := by simp [stepsM, h1]
    rw [hst]
    generalize hR : movesM s w = R at hmv hlen
    try simp 
    repeat' (first
      | (refine CallX.pure (hmv) (by simp) (by simp) ?_; try simp )
      | (refine CallK.intro (hmv) (by simp) (by simp) ?_; try simp )
      | (refine CallG.intro (fun _ => hmv) (by simp) (by simp) ?_; try simp )
      | ((with_reducible refine PreK.intro ?_ ?_); (next => (first | omega | (intros; first | omega | (refine ⟨by omega, ?_⟩; repeat (first | assumption | constructor)) | assumption))); intro _; try simp )
      | fail)
    refine LoopK.by (ι := Nat × Nat × List Step) (fun i => ⟨[(21, iv i.1), (20, iv R.length), (19, movesV R), (7, .sl 7 i.2.1 0 i.2.2.length)], [(7, some ⟨2, i.2.2.map stepV, i.2.1, false⟩)]⟩) (fun i => R.length - i.1)
      (fun i => i.1 ≤ R.length ∧ i.2.2.length ≤ i.1 ∧ i.2.2 ++ (R.drop i.1).map (·.step) = R.map (·.step)) (0, 1, []) (by simp) (by simp) ?_
    intro ⟨i, ver, acc⟩ Q' ⟨hi, ha, hc⟩ hq he hr
    dsimp only at hi ha hc
    try simp 
    refine CondK.intro (fun h4 => ?_) (fun h4 => ?_)
    · simp at h4
      rw [drop_cons R i h4, List.map_cons] at hc
      simp [h4]
      try simp 
      repeat' (first
        | ((with_reducible refine PreK.intro ?_ ?_); (next => (first | omega | (intros; first | omega | (refine ⟨by omega, ?_⟩; repeat (first | assumption | constructor)) | assumption))); intro _; try simp )
        | fail)
      exact hq (i + 1, ver + 1, acc ++ [(el R i).step]) _ ⟨by dsimp only; omega, by simp; omega, by simpa using hc⟩ (by dsimp only; omega) (by simp)
    · simp at h4
      rw [List.drop_eq_nil_of_le (by omega)] at hc
      simp at hc
      try simp 
      apply he
      simp [hc, h1]
theorem rSteps_c (s : List Rule) (w : List Int) (h : Sys.small s) (hw : w.length ≤ 1000) : CallP Try.prog 81 [rulesV s, ints w] (.tup [stepsV (stepsM s w), iv (swErr s w)]) := by
  refine C81 (by simp) ?_
  have hck := rworded_c s w [] h hw (by simp)
  rw [check_nil] at hck
  simp [A81]
  try simp 
  repeat' (first
    | (refine CallX.pure (hck) (by simp) (by simp) ?_; try simp )
    | (refine CallK.intro (hck) (by simp) (by simp) ?_; try simp )
    | (refine CallG.intro (fun _ => hck) (by simp) (by simp) ?_; try simp )
    | ((with_reducible refine PreK.intro ?_ ?_); (next => (first | omega | (intros; first | omega | (refine ⟨by omega, ?_⟩; repeat (first | assumption | constructor)) | assumption))); intro _; try simp )
    | fail)
  refine CondK.intro (fun h1 => ?_) (fun h1 => ?_)
  · simp at h1
    simp [stepsM, h1]
  · simp at h1
    obtain ⟨h2, h3⟩ := swErr_zero h1
    have hst : stepsM s w = (movesM s w).map (·.step) := by simp [stepsM, h1]
    rw [hst]
    try simp 
    repeat' (first
      | (refine CallX.pure (rsteps_c s w h (sysErr_zero h2).1 (wordErr_zero h3).1) (by simp) (by simp) ?_; try simp )
      | (refine CallK.intro (rsteps_c s w h (sysErr_zero h2).1 (wordErr_zero h3).1) (by simp) (by simp) ?_; try simp )
      | (refine CallG.intro (fun _ => rsteps_c s w h (sysErr_zero h2).1 (wordErr_zero h3).1) (by simp) (by simp) ?_; try simp )
      | ((with_reducible refine PreK.intro ?_ ?_); (next => (first | omega | (intros; first | omega | (refine ⟨by omega, ?_⟩; repeat (first | assumption | constructor)) | assumption))); intro _; try simp )
      | fail)
    simp [h1]
theorem two_c (r s : Rule) (h : r.small) (h2 : s.small) : CallP Try.prog 147 [ruleV r, ruleV s] (iv (twoErr r s)) := by
  refine C147 (by simp) ?_
  simp [A147]
  try simp 
  repeat' (first
    | (refine CallX.pure (validate_s h) (by simp) (by simp) ?_; try simp )
    | (refine CallK.intro (validate_s h) (by simp) (by simp) ?_; try simp )
    | (refine CallG.intro (fun _ => validate_s h) (by simp) (by simp) ?_; try simp )
    | ((with_reducible refine PreK.intro ?_ ?_); (next => (first | omega | (intros; first | omega | (refine ⟨by omega, ?_⟩; repeat (first | assumption | constructor)) | assumption))); intro _; try simp )
    | fail)
  refine CondK.intro (fun h1 => ?_) (fun h1 => ?_)
  · simp at h1
    simp [twoErr, h1]
  · simp at h1
    try simp 
    try simp 
    repeat' (first
      | (refine CallX.pure (validate_s h2) (by simp) (by simp) ?_; try simp )
      | (refine CallK.intro (validate_s h2) (by simp) (by simp) ?_; try simp )
      | (refine CallG.intro (fun _ => validate_s h2) (by simp) (by simp) ?_; try simp )
      | ((with_reducible refine PreK.intro ?_ ?_); (next => (first | omega | (intros; first | omega | (refine ⟨by omega, ?_⟩; repeat (first | assumption | constructor)) | assumption))); intro _; try simp )
      | fail)
    simp [twoErr, h1]
theorem rtwo_c (r s : Rule) (h : r.small) (h2 : s.small) : CallP Try.prog 239 [ruleV r, ruleV s] (iv (twoErr r s)) := by
  refine C239 (by simp) ?_
  simp [A239]
  try simp 
  repeat' (first
    | (refine CallX.pure (rValidate_c r h) (by simp) (by simp) ?_; try simp )
    | (refine CallK.intro (rValidate_c r h) (by simp) (by simp) ?_; try simp )
    | (refine CallG.intro (fun _ => rValidate_c r h) (by simp) (by simp) ?_; try simp )
    | ((with_reducible refine PreK.intro ?_ ?_); (next => (first | omega | (intros; first | omega | (refine ⟨by omega, ?_⟩; repeat (first | assumption | constructor)) | assumption))); intro _; try simp )
    | fail)
  refine CondK.intro (fun h1 => ?_) (fun h1 => ?_)
  · simp at h1
    simp [twoErr, h1]
  · simp at h1
    try simp 
    try simp 
    repeat' (first
      | (refine CallX.pure (rValidate_c s h2) (by simp) (by simp) ?_; try simp )
      | (refine CallK.intro (rValidate_c s h2) (by simp) (by simp) ?_; try simp )
      | (refine CallG.intro (fun _ => rValidate_c s h2) (by simp) (by simp) ?_; try simp )
      | ((with_reducible refine PreK.intro ?_ ?_); (next => (first | omega | (intros; first | omega | (refine ⟨by omega, ?_⟩; repeat (first | assumption | constructor)) | assumption))); intro _; try simp )
      | fail)
    simp [twoErr, h1]
def andL (a b : List Int) : List Bool := [mayS a (-1) && mayS b (-1), mayS a 0 && mayS b 0, mayS a 1 && mayS b 1, mayS a 2 && mayS b 2, mayS a 3 && mayS b 3, mayS a 4 && mayS b 4, mayS a 5 && mayS b 5]
@[simp] theorem andL_length (a b : List Int) : (andL a b).length = 7 := rfl
@[simp] theorem sideL_length (a : List Int) : (sideL a).length = 7 := rfl
theorem big_of {n : Nat} (h : n ≤ 1000) : n ≤ big := by simp only [big]; omega
theorem and_s (a b : List Int) : CallP Try.prog 201 [sideV (sideL a), sideV (sideL b)] (sideV (andL a b)) := and_c _ _ _ _ _ _ _ _ _ _ _ _ _ _
theorem both_c (r s : Rule) (h : r.small) (h2 : s.small) : CallP Try.prog 148 [ruleV r, ruleV s] (.tup [sideV (andL r.left s.left), sideV (andL r.right s.right)]) := by
  refine C148 (by simp) ?_
  simp [A148]
  refine CallK.intro (by simpa using of_c r.left (big_of h.2.1)) (by simp) (by simp) ?_
  try simp 
  refine CallK.intro (by simpa using of_c s.left (big_of h2.2.1)) (by simp) (by simp) ?_
  try simp 
  refine CallK.intro (by simpa using and_s r.left s.left) (by simp) (by simp) ?_
  try simp 
  refine CallK.intro (by simpa using of_c r.right (big_of h.2.2)) (by simp) (by simp) ?_
  try simp 
  refine CallK.intro (by simpa using of_c s.right (big_of h2.2.2)) (by simp) (by simp) ?_
  try simp 
  refine CallK.intro (by simpa using and_s r.right s.right) (by simp) (by simp) ?_
  try simp 
  try simp 
  repeat' (first
    | ((with_reducible refine PreK.intro ?_ ?_); (next => (first | omega | (intros; first | omega | (refine ⟨by omega, ?_⟩; repeat (first | assumption | constructor)) | assumption))); intro _; try simp )
    | fail)
theorem rinside_c (a b : List Int) (ha : a.length ≤ 1000) (hb : b.length ≤ 1000) : CallP Try.prog 240 [ints a, ints b] (bv (insideM a b)) := by
  refine C240 (by simp) ?_
  generalize hR : insideM a b = R
  unfold insideM mayAll at hR
  simp [A240]
  refine LoopK.by (fun i : Nat => ⟨[(5, iv ((i : Int) - 1)), (0, ints a), (1, ints b)], []⟩) (fun i => 7 - i) (fun i => i ≤ 7 ∧ (([-1, 0, 1, 2, 3, 4, 5] : List Int).drop i).all (fun n => !mayS a n || mayS b n) = R) 0 (by simpa using hR) (by simp) ?_
  intro i Q' ⟨hi, hc⟩ hq he hr
  try simp 
  refine CondK.intro (fun h1 => ?_) (fun h1 => ?_)
  · simp at h1
    have hlt : i < 7 := by omega
    have hel : el ([-1, 0, 1, 2, 3, 4, 5] : List Int) i = (i : Int) - 1 := by
      have : i = 0 ∨ i = 1 ∨ i = 2 ∨ i = 3 ∨ i = 4 ∨ i = 5 ∨ i = 6 := by omega
      rcases this with rfl | rfl | rfl | rfl | rfl | rfl | rfl <;> rfl
    rw [drop_cons _ i (by simpa using hlt), hel, List.all_cons] at hc
    try simp 
    repeat' (first
      | (refine CallX.pure (rmay_c a ((i : Int) - 1) ha) (by simp) (by simp) ?_; try simp )
      | (refine CallK.intro (rmay_c a ((i : Int) - 1) ha) (by simp) (by simp) ?_; try simp )
      | (refine CallG.intro (fun _ => rmay_c a ((i : Int) - 1) ha) (by simp) (by simp) ?_; try simp )
      | (refine CallX.pure (rmay_c b ((i : Int) - 1) hb) (by simp) (by simp) ?_; try simp )
      | (refine CallK.intro (rmay_c b ((i : Int) - 1) hb) (by simp) (by simp) ?_; try simp )
      | (refine CallG.intro (fun _ => rmay_c b ((i : Int) - 1) hb) (by simp) (by simp) ?_; try simp )
      | ((with_reducible refine PreK.intro ?_ ?_); (next => (first | omega | (intros; first | omega | (refine ⟨by omega, ?_⟩; repeat (first | assumption | constructor)) | assumption))); intro _; try simp )
      | fail)
    refine CondK.intro (fun h2 => ?_) (fun h2 => ?_)
    · have : (!mayS a ((i : Int) - 1) || mayS b ((i : Int) - 1)) = false := by
        revert h2; cases mayS a ((i : Int) - 1) <;> cases mayS b ((i : Int) - 1) <;> simp
      rw [this] at hc
      simp at hc
      try simp 
      apply hr
      simp [hc]
    · have : (!mayS a ((i : Int) - 1) || mayS b ((i : Int) - 1)) = true := by
        revert h2; cases mayS a ((i : Int) - 1) <;> cases mayS b ((i : Int) - 1) <;> simp
      rw [this, Bool.true_and] at hc
      try simp 
      repeat' (first
        | ((with_reducible refine PreK.intro ?_ ?_); (next => (first | omega | (intros; first | omega | (refine ⟨by omega, ?_⟩; repeat (first | assumption | constructor)) | assumption))); intro _; try simp )
        | fail)
      exact hq (i + 1) _ ⟨by omega, hc⟩ (by omega) (by simp)
  · simp at h1
    have : i = 7 := by omega
    subst this
    simp at hc
    try simp 
    apply he
    simp [hc]
theorem rIsSpecial_c (r s : Rule) (h : r.small) (h2 : s.small) : CallP Try.prog 226 [ruleV r, ruleV s] (.tup [bv (specM r s), iv (twoErr r s)]) := by
  refine C226 (by simp) ?_
  simp [A226]
  try simp 
  repeat' (first
    | (refine CallX.pure (rtwo_c r s h h2) (by simp) (by simp) ?_; try simp )
    | (refine CallK.intro (rtwo_c r s h h2) (by simp) (by simp) ?_; try simp )
    | (refine CallG.intro (fun _ => rtwo_c r s h h2) (by simp) (by simp) ?_; try simp )
    | ((with_reducible refine PreK.intro ?_ ?_); (next => (first | omega | (intros; first | omega | (refine ⟨by omega, ?_⟩; repeat (first | assumption | constructor)) | assumption))); intro _; try simp )
    | fail)
  refine CondK.intro (fun h1 => ?_) (fun h1 => ?_)
  · simp at h1
    simp [specM, h1]
  · simp at h1
    try simp 
    repeat' (first
      | (refine CallX.pure (rinside_c r.left s.left h.2.1 h2.2.1) (by simp) (by simp) ?_; try simp )
      | (refine CallK.intro (rinside_c r.left s.left h.2.1 h2.2.1) (by simp) (by simp) ?_; try simp )
      | (refine CallG.intro (fun _ => rinside_c r.left s.left h.2.1 h2.2.1) (by simp) (by simp) ?_; try simp )
      | (refine CallX.pure (rinside_c r.right s.right h.2.2 h2.2.2) (by simp) (by simp) ?_; try simp )
      | (refine CallK.intro (rinside_c r.right s.right h.2.2 h2.2.2) (by simp) (by simp) ?_; try simp )
      | (refine CallG.intro (fun _ => rinside_c r.right s.right h.2.2 h2.2.2) (by simp) (by simp) ?_; try simp )
      | ((with_reducible refine PreK.intro ?_ ?_); (next => (first | omega | (intros; first | omega | (refine ⟨by omega, ?_⟩; repeat (first | assumption | constructor)) | assumption))); intro _; try simp )
      | fail)
    simp [specM, h1, Bool.and_assoc]
theorem and_self_eq (a b : Bool) : ((a && b) == a) = (!a || b) := by cases a <;> cases b <;> rfl
theorem IsSpecial_c (r s : Rule) (h : r.small) (h2 : s.small) : CallP Try.prog 63 [ruleV r, ruleV s] (.tup [bv (specM r s), iv (twoErr r s)]) := by
  refine C63 (by simp) ?_
  simp [A63]
  try simp 
  repeat' (first
    | (refine CallX.pure (two_c r s h h2) (by simp) (by simp) ?_; try simp )
    | (refine CallK.intro (two_c r s h h2) (by simp) (by simp) ?_; try simp )
    | (refine CallG.intro (fun _ => two_c r s h h2) (by simp) (by simp) ?_; try simp )
    | ((with_reducible refine PreK.intro ?_ ?_); (next => (first | omega | (intros; first | omega | (refine ⟨by omega, ?_⟩; repeat (first | assumption | constructor)) | assumption))); intro _; try simp )
    | fail)
  refine CondK.intro (fun h1 => ?_) (fun h1 => ?_)
  · simp at h1
    simp [specM, h1]
  · simp at h1
    try simp 
    repeat' (first
      | (refine CallX.pure (both_c r s h h2) (by simp) (by simp) ?_; try simp )
      | (refine CallK.intro (both_c r s h h2) (by simp) (by simp) ?_; try simp )
      | (refine CallG.intro (fun _ => both_c r s h h2) (by simp) (by simp) ?_; try simp )
      | ((with_reducible refine PreK.intro ?_ ?_); (next => (first | omega | (intros; first | omega | (refine ⟨by omega, ?_⟩; repeat (first | assumption | constructor)) | assumption))); intro _; try simp )
      | fail)
    try simp [andL, sideL]
    repeat' (first
      | (refine CallX.pure (of_c r.left (big_of h.2.1)) (by simp) (by simp) ?_; try simp [andL, sideL])
      | (refine CallK.intro (of_c r.left (big_of h.2.1)) (by simp) (by simp) ?_; try simp [andL, sideL])
      | (refine CallG.intro (fun _ => of_c r.left (big_of h.2.1)) (by simp) (by simp) ?_; try simp [andL, sideL])
      | (refine CallX.pure (of_c r.right (big_of h.2.2)) (by simp) (by simp) ?_; try simp [andL, sideL])
      | (refine CallK.intro (of_c r.right (big_of h.2.2)) (by simp) (by simp) ?_; try simp [andL, sideL])
      | (refine CallG.intro (fun _ => of_c r.right (big_of h.2.2)) (by simp) (by simp) ?_; try simp [andL, sideL])
      | ((with_reducible refine PreK.intro ?_ ?_); (next => (first | omega | (intros; first | omega | (refine ⟨by omega, ?_⟩; repeat (first | assumption | constructor)) | assumption))); intro _; try simp [andL, sideL])
      | fail)
    simp [specM, h1, insideM, mayAll, and_self_eq, Bool.and_assoc]
end Go.Proofs.Ytaooenmkofjafaa
end

section
/- Contracts: candidates and grounds. -/
namespace Go.Proofs.Ytaooenmkofjafaa
open Go.Abs Go
set_option maxRecDepth 20000
set_option maxHeartbeats 2000000
attribute [local irreducible] PreK CondK CallK CallG CallX LoopK
attribute [local simp] avsEq avEq akind teq vkind vEq

/-- A step with its rule. -/
structure Cand where
  step : Step
  rule : Rule
@[simp] def candV (c : Cand) : AV := .agg [iv c.step.rule, iv c.step.place, iv c.rule.frm, ints c.rule.to, ints c.rule.left, ints c.rule.right]
def Cand.small (c : Cand) : Prop := c.rule.small ∧ 0 ≤ c.step.place ∧ c.step.place ≤ 1000
theorem applyM_len (r : Rule) (w : List Int) (p : Int) : (applyM r w p).1.length ≤ 8 := by
  unfold applyM
  split
  · simp
  · split
    · simp
    · split
      · simp
      · rename_i h; simpa using h
theorem isSpecial_c (a b : Cand) (ha : a.small) (hb : b.small) : CallP Try.prog 222 [candV a, candV b] (bv (specM a.rule b.rule && !specM b.rule a.rule)) := by
  refine C222 (by simp) ?_
  simp [A222]
  refine CallX.pure (by simpa using IsSpecial_c a.rule b.rule ha.1 hb.1) (by simp) (by simp) ?_
  try simp 
  refine CallX.pure (by simpa using IsSpecial_c b.rule a.rule hb.1 ha.1) (by simp) (by simp) ?_
  try simp 
  try simp
theorem lasts_c (w : List Int) (a b : Cand) (hw : w.length ≤ 1000) (ha : a.small) (hb : b.small) : CallP Try.prog 119 [ints w, candV a, candV b] (bv (lastsM w a.rule a.step b.rule b.step)) := by
  refine C119 (by simp) ?_
  have hl := applyM_len b.rule w b.step.place
  have ht := hb.1.1
  obtain ⟨ha1, ha2, ha3⟩ := ha
  have hw2 : (applyM b.rule w b.step.place).1.length ≤ 1000 := by omega
  simp [A119]
  try simp 
  repeat' (first
    | (refine CallX.pure (Apply_c b.rule w b.step.place hb.1 hw) (by simp) (by simp) ?_; try simp )
    | (refine CallK.intro (Apply_c b.rule w b.step.place hb.1 hw) (by simp) (by simp) ?_; try simp )
    | (refine CallG.intro (fun _ => Apply_c b.rule w b.step.place hb.1 hw) (by simp) (by simp) ?_; try simp )
    | ((with_reducible refine PreK.intro ?_ ?_); (next => (first | omega | (intros; first | omega | (refine ⟨by omega, ?_⟩; repeat (first | assumption | constructor)) | assumption))); intro _; try simp )
    | fail)
  refine CondK.intro (fun h1 => ?_) (fun h1 => ?_)
  · simp at h1
    try simp 
    repeat' (first
      | ((with_reducible refine PreK.intro ?_ ?_); (next => (first | omega | (intros; first | omega | (refine ⟨by omega, ?_⟩; repeat (first | assumption | constructor)) | assumption))); intro _; try simp )
      | fail)
    refine CondK.intro (fun h2 => ?_) (fun h2 => ?_)
    · simp at h2
      try simp 
      repeat' (first
        | (refine CallX.pure (Apply_c a.rule (applyM b.rule w b.step.place).1 (a.step.place + b.rule.to.length - 1) ha1 hw2) (by simp) (by simp) ?_; try simp )
        | (refine CallK.intro (Apply_c a.rule (applyM b.rule w b.step.place).1 (a.step.place + b.rule.to.length - 1) ha1 hw2) (by simp) (by simp) ?_; try simp )
        | (refine CallG.intro (fun _ => Apply_c a.rule (applyM b.rule w b.step.place).1 (a.step.place + b.rule.to.length - 1) ha1 hw2) (by simp) (by simp) ?_; try simp )
        | ((with_reducible refine PreK.intro ?_ ?_); (next => (first | omega | (intros; first | omega | (refine ⟨by omega, ?_⟩; repeat (first | assumption | constructor)) | assumption))); intro _; try simp )
        | fail)
      simp [lastsM, lastPlace, h1, h2]
    · simp at h2
      try simp 
      repeat' (first
        | (refine CallX.pure (Apply_c a.rule (applyM b.rule w b.step.place).1 (a.step.place + b.rule.to.length) ha1 hw2) (by simp) (by simp) ?_; try simp )
        | (refine CallK.intro (Apply_c a.rule (applyM b.rule w b.step.place).1 (a.step.place + b.rule.to.length) ha1 hw2) (by simp) (by simp) ?_; try simp )
        | (refine CallG.intro (fun _ => Apply_c a.rule (applyM b.rule w b.step.place).1 (a.step.place + b.rule.to.length) ha1 hw2) (by simp) (by simp) ?_; try simp )
        | ((with_reducible refine PreK.intro ?_ ?_); (next => (first | omega | (intros; first | omega | (refine ⟨by omega, ?_⟩; repeat (first | assumption | constructor)) | assumption))); intro _; try simp )
        | fail)
      have h3 : ¬ 0 ≤ b.rule.frm := by omega
      simp [lastsM, lastPlace, h1, h3]
  · simp at h1
    try simp 
    repeat' (first
      | (refine CallX.pure (Apply_c a.rule (applyM b.rule w b.step.place).1 a.step.place ha1 hw2) (by simp) (by simp) ?_; try simp )
      | (refine CallK.intro (Apply_c a.rule (applyM b.rule w b.step.place).1 a.step.place ha1 hw2) (by simp) (by simp) ?_; try simp )
      | (refine CallG.intro (fun _ => Apply_c a.rule (applyM b.rule w b.step.place).1 a.step.place ha1 hw2) (by simp) (by simp) ?_; try simp )
      | ((with_reducible refine PreK.intro ?_ ?_); (next => (first | omega | (intros; first | omega | (refine ⟨by omega, ?_⟩; repeat (first | assumption | constructor)) | assumption))); intro _; try simp )
      | fail)
    have h3 : ¬ b.step.place < a.step.place := by omega
    simp [lastsM, lastPlace, h3]
theorem reason1_c (w : List Int) (a b : Cand) (ha : a.small) (hb : b.small) : CallP Try.prog 221 [ints w, candV a, candV b] (bv (proM w 1 a.rule a.step b.rule b.step)) := by
  refine C221 (by simp) ?_
  simp [A221]
  try simp 
  repeat' (first
    | (refine CallX.pure (isSpecial_c a b ha hb) (by simp) (by simp) ?_; try simp )
    | (refine CallK.intro (isSpecial_c a b ha hb) (by simp) (by simp) ?_; try simp )
    | (refine CallG.intro (fun _ => isSpecial_c a b ha hb) (by simp) (by simp) ?_; try simp )
    | ((with_reducible refine PreK.intro ?_ ?_); (next => (first | omega | (intros; first | omega | (refine ⟨by omega, ?_⟩; repeat (first | assumption | constructor)) | assumption))); intro _; try simp )
    | fail)
  simp [proM]
theorem reason2_c (w : List Int) (a b : Cand) (hw : w.length ≤ 1000) (ha : a.small) (hb : b.small) : CallP Try.prog 223 [ints w, candV a, candV b] (bv (proM w 2 a.rule a.step b.rule b.step)) := by
  refine C223 (by simp) ?_
  simp [A223]
  try simp 
  repeat' (first
    | (refine CallX.pure (lasts_c w a b hw ha hb) (by simp) (by simp) ?_; try simp )
    | (refine CallK.intro (lasts_c w a b hw ha hb) (by simp) (by simp) ?_; try simp )
    | (refine CallG.intro (fun _ => lasts_c w a b hw ha hb) (by simp) (by simp) ?_; try simp )
    | (refine CallX.pure (lasts_c w b a hw hb ha) (by simp) (by simp) ?_; try simp )
    | (refine CallK.intro (lasts_c w b a hw hb ha) (by simp) (by simp) ?_; try simp )
    | (refine CallG.intro (fun _ => lasts_c w b a hw hb ha) (by simp) (by simp) ?_; try simp )
    | ((with_reducible refine PreK.intro ?_ ?_); (next => (first | omega | (intros; first | omega | (refine ⟨by omega, ?_⟩; repeat (first | assumption | constructor)) | assumption))); intro _; try simp )
    | fail)
  simp [proM]
theorem reason3_c (w : List Int) (a b : Cand) : CallP Try.prog 224 [ints w, candV a, candV b] (bv (proM w 3 a.rule a.step b.rule b.step)) := by
  refine C224 (by simp) ?_
  simp [A224]
  try simp [proM]
theorem reason4_c (w : List Int) (a b : Cand) : CallP Try.prog 225 [ints w, candV a, candV b] (bv (proM w 4 a.rule a.step b.rule b.step)) := by
  refine C225 (by simp) ?_
  simp [A225]
  try simp [proM]
theorem reasons_c : CallP Try.prog 188 [] (.agg [.fn 221 [] [], .fn 223 [] [], .fn 224 [] [], .fn 225 [] []]) := by
  refine C188 (by simp) ?_
  simp [A188]
theorem reason_c (w : List Int) (a b : Cand) (hw : w.length ≤ 1000) (ha : a.small) (hb : b.small) (g : Int) (hg : g = 1 ∨ g = 2 ∨ g = 3 ∨ g = 4) :
    CallP Try.prog (if g = 1 then 221 else if g = 2 then 223 else if g = 3 then 224 else 225) [ints w, candV a, candV b] (bv (proM w g a.rule a.step b.rule b.step)) := by
  rcases hg with rfl | rfl | rfl | rfl
  · exact reason1_c w a b ha hb
  · exact reason2_c w a b hw ha hb
  · exact reason3_c w a b
  · exact reason4_c w a b
end Go.Proofs.Ytaooenmkofjafaa
end

section
/- Contracts: grounds, part 2. -/
namespace Go.Proofs.Ytaooenmkofjafaa
open Go.Abs Go
set_option maxRecDepth 20000
set_option maxHeartbeats 2000000
attribute [local irreducible] PreK CondK CallK CallG CallX LoopK
attribute [local simp] avsEq avEq akind teq vkind vEq T_128

theorem decide_c (w : List Int) (g : Int) (a b : Cand) (hw : w.length ≤ 1000) (ha : a.small) (hb : b.small) (hg : g = 1 ∨ g = 2 ∨ g = 3 ∨ g = 4) :
    CallP Try.prog 125 [ints w, iv g, candV a, candV b] (iv (decideM w g a.rule a.step b.rule b.step)) := by
  have h1 := reason_c w a b hw ha hb g hg
  have h2 := reason_c w b a hw hb ha g hg
  refine C125 (by simp) ?_
  unfold decideM
  generalize proM w g a.rule a.step b.rule b.step = x at h1 ⊢
  generalize proM w g b.rule b.step a.rule a.step = y at h2 ⊢
  rcases hg with rfl | rfl | rfl | rfl
  all_goals
    simp at h1 h2
    simp [A125]
    refine CallX.pure (by simpa using reasons_c) (by simp) (by simp) ?_
    try simp 
    refine CallX.pure (by simpa using h1) (by simp) (by simp) ?_
    try simp 
    refine CondK.intro (fun h3 => ?_) (fun h3 => ?_)
    · try simp at h3
      simp [h3]
    · try simp at h3
      try simp 
      refine CallX.pure (by simpa using h2) (by simp) (by simp) ?_
      try simp 
      refine CondK.intro (fun h4 => ?_) (fun h4 => ?_)
      · try simp at h4
        simp [h3, h4]
      · try simp at h4
        simp [h3, h4]
theorem decideM_cases (w : List Int) (g : Int) (ra : Rule) (a : Step) (rb : Rule) (b : Step) : decideM w g ra a rb b = 1 ∨ decideM w g ra a rb b = -1 ∨ decideM w g ra a rb b = 0 := by
  unfold decideM; split
  · simp
  · split <;> simp
def gOK (gs : List Int) : Prop := ∀ g ∈ gs, g = 1 ∨ g = 2 ∨ g = 3 ∨ g = 4
theorem beats_c (w gs : List Int) (a b : Cand) (hw : w.length ≤ 1000) (hg : gOK gs) (hgl : gs.length ≤ 1000) (ha : a.small) (hb : b.small) :
    CallP Try.prog 123 [ints w, ints gs, candV a, candV b] (iv (beatsM w gs a.rule a.step b.rule b.step)) := by
  refine C123 (by simp) ?_
  generalize hR : beatsM w gs a.rule a.step b.rule b.step = R
  simp [A123]
  refine LoopK.by (fun i : Nat => ⟨[(14, iv i), (13, iv gs.length), (12, ints gs), (0, ints w), (6, .pt 6 1 0 0), (7, .pt 7 1 0 0)], [(6, some ⟨6, [candV a], 1, true⟩), (7, some ⟨6, [candV b], 1, true⟩)]⟩) (fun i => gs.length - i)
    (fun i => i ≤ gs.length ∧ beatsM w (gs.drop i) a.rule a.step b.rule b.step = R) 0 (by simpa using hR) (by simp) ?_
  intro i Q' ⟨hi, hc⟩ hq he hr
  try simp 
  refine CondK.intro (fun h1 => ?_) (fun h1 => ?_)
  · simp at h1
    rw [drop_cons gs i h1, beatsM] at hc
    have hgi := hg (el gs i) (by rw [el_eq gs i h1]; exact List.getElem_mem h1)
    have hd := decideM_cases w (el gs i) a.rule a.step b.rule b.step
    simp [h1]
    try simp 
    repeat' (first
      | (refine CallX.pure (decide_c w (el gs i) a b hw ha hb hgi) (by simp) (by simp) ?_; try simp )
      | (refine CallK.intro (decide_c w (el gs i) a b hw ha hb hgi) (by simp) (by simp) ?_; try simp )
      | (refine CallG.intro (fun _ => decide_c w (el gs i) a b hw ha hb hgi) (by simp) (by simp) ?_; try simp )
      | ((with_reducible refine PreK.intro ?_ ?_); (next => (first | omega | (intros; first | omega | (refine ⟨by omega, ?_⟩; repeat (first | assumption | constructor)) | assumption))); intro _; try simp )
      | fail)
    refine CondK.intro (fun h2 => ?_) (fun h2 => ?_)
    · simp at h2
      simp [h2] at hc
      try simp 
      refine PreK.intro (by rcases hd with e | e | e <;> rw [e] <;> omega) fun _ => ?_
      try simp 
      apply hr
      simp [hc]
    · simp at h2
      simp [h2] at hc
      try simp 
      repeat' (first
        | ((with_reducible refine PreK.intro ?_ ?_); (next => (first | omega | (intros; first | omega | (refine ⟨by omega, ?_⟩; repeat (first | assumption | constructor)) | assumption))); intro _; try simp )
        | fail)
      exact hq (i + 1) _ ⟨by omega, hc⟩ (by omega) (by simp)
  · simp at h1
    rw [List.drop_eq_nil_of_le (by omega)] at hc
    simp [beatsM] at hc
    try simp 
    apply he
    simp [hc]
end Go.Proofs.Ytaooenmkofjafaa
end

section
/- Contracts: who wins. -/
namespace Go.Proofs.Ytaooenmkofjafaa
open Go.Abs Go
set_option maxRecDepth 20000
set_option maxHeartbeats 2000000
attribute [local irreducible] PreK CondK CallK CallG CallX LoopK
attribute [local simp] avsEq avEq akind teq vkind vEq

/-- A step with its rule in a system, as the program holds it. -/
def candS (s : List Rule) (x : Step) : AV := candV ⟨x, el s x.rule.toNat⟩
theorem candS_eq (s : List Rule) (x : Step) : candS s x = .agg [iv x.rule, iv x.place, iv (el s x.rule.toNat).frm, ints (el s x.rule.toNat).to, ints (el s x.rule.toNat).left, ints (el s x.rule.toNat).right] := rfl
@[simp] theorem nth_cand (s : List Rule) (l : List Step) (k : Nat) (h : k < l.length) : nth (l.map (candS s)) k = candV ⟨el l k, el s (el l k).rule.toNat⟩ := nth_map (candS s) l k h
@[simp] def candsV (s : List Rule) (l : List Step) : AV := .seq 6 (l.map (candS s)) false
def stepOK (s : List Rule) (x : Step) : Prop := 0 ≤ x.rule ∧ x.rule < s.length ∧ 0 ≤ x.place ∧ x.place ≤ 8
theorem stepOK.small {s : List Rule} {x : Step} (h : stepOK s x) (hs : Sys.small s) : Cand.small ⟨x, el s x.rule.toNat⟩ := ⟨hs.el (by have := h.1; have := h.2.1; omega), h.2.2.1, by have := h.2.2.2; simp only; omega⟩
theorem movesR_ok {s : List Rule} {w : List Int} {r : Rule} {k : Nat} (hk : k < s.length) (hw : w.length ≤ 8) : ∀ (n i : Nat), i + n ≤ w.length + 1 → ∀ m ∈ movesR r w k i n, stepOK s m.step
  | 0, i, _, m, hm => by simp [movesR] at hm
  | n + 1, i, hi, m, hm => by
    rw [movesR, List.mem_append] at hm
    rcases hm with hm | hm
    · unfold moveAt at hm
      split at hm
      · simp only [List.mem_cons, List.not_mem_nil, or_false] at hm
        subst hm
        exact ⟨by simp, by simp; omega, by simp, by simp; omega⟩
      · cases hm
    · exact movesR_ok hk hw n (i + 1) (by omega) m hm
theorem movesF_ok {s : List Rule} {w : List Int} (hw : w.length ≤ 8) : ∀ (l : List Rule) (k : Nat), k + l.length ≤ s.length → ∀ m ∈ movesF w k l, stepOK s m.step
  | [], k, _, m, hm => by simp [movesF] at hm
  | r :: l, k, hk, m, hm => by
    rw [movesF, List.mem_append] at hm
    simp only [List.length_cons] at hk
    rcases hm with hm | hm
    · exact movesR_ok (by omega) hw _ 0 (by omega) m hm
    · exact movesF_ok hw l (k + 1) (by omega) m hm
theorem stepsM_ok {s : List Rule} {w : List Int} : ∀ x ∈ stepsM s w, stepOK s x := by
  intro x hx
  unfold stepsM at hx
  by_cases h : swErr s w = 0
  · simp only [h, ne_eq, not_true, if_false, List.mem_map] at hx
    obtain ⟨m, hm, rfl⟩ := hx
    exact movesF_ok (wordErr_zero (swErr_zero h).2).1 s 0 (by omega) m hm
  · simp [h] at hx
theorem stepsM_len {s : List Rule} {w : List Int} : (stepsM s w).length ≤ 54 := by
  unfold stepsM
  by_cases h : swErr s w = 0
  · have := movesM_len (swErr_zero h).1 (swErr_zero h).2
    simpa [h] using this
  · simp [h]
theorem candidates_c (s : List Rule) (w : List Int) (h : Sys.small s) (hw : w.length ≤ 1000) : CallP Try.prog 113 [rulesV s, ints w] (candsV s (stepsM s w)) := by
  refine C113 (by simp) ?_
  have hok : ∀ x ∈ stepsM s w, stepOK s x := stepsM_ok
  have hlen : (stepsM s w).length ≤ 54 := stepsM_len
  have hst := Steps_c s w h hw
  simp [A113]
  generalize stepsM s w = R at hst hok hlen
  try simp 
  repeat' (first
    | (refine CallX.pure (hst) (by simp) (by simp) ?_; try simp )
    | (refine CallK.intro (hst) (by simp) (by simp) ?_; try simp )
    | (refine CallG.intro (fun _ => hst) (by simp) (by simp) ?_; try simp )
    | ((with_reducible refine PreK.intro ?_ ?_); (next => (first | omega | (intros; first | omega | (refine ⟨by omega, ?_⟩; repeat (first | assumption | constructor)) | assumption))); intro _; try simp )
    | fail)
  refine LoopK.by (ι := Nat × Nat × List Step) (fun i => ⟨[(18, iv i.1), (17, iv R.length), (16, stepsV R), (0, rulesV s), (5, .sl 5 i.2.1 0 i.2.2.length)], [(5, some ⟨6, i.2.2.map (candS s), i.2.1, false⟩)]⟩) (fun i => R.length - i.1)
    (fun i => i.1 ≤ R.length ∧ i.2.2.length ≤ i.1 ∧ i.2.2 ++ R.drop i.1 = R) (0, 1, []) (by simp) (by simp) ?_
  intro ⟨i, ver, acc⟩ Q' ⟨hi, ha, hc⟩ hq he hr
  dsimp only at hi ha hc
  try simp 
  refine CondK.intro (fun h4 => ?_) (fun h4 => ?_)
  · simp at h4
    obtain ⟨o1, o2, o3, o4⟩ := hok (el R i) (by rw [el_eq R i h4]; exact List.getElem_mem h4)
    rw [drop_cons R i h4] at hc
    have o5 : (el R i).rule.toNat < s.length := by omega
    simp [h4]
    try simp [o5]
    repeat' (first
      | ((with_reducible refine PreK.intro ?_ ?_); (next => (first | omega | (intros; first | omega | (refine ⟨by omega, ?_⟩; repeat (first | assumption | constructor)) | assumption))); intro _; try simp [o5])
      | fail)
    exact hq (i + 1, ver + 1, acc ++ [el R i]) _ ⟨by dsimp only; omega, by simp; omega, by simpa using hc⟩ (by dsimp only; omega) (by simp [candS_eq])
  · simp at h4
    rw [List.drop_eq_nil_of_le (by omega)] at hc
    simp at hc
    try simp 
    apply he
    simp [hc]
end Go.Proofs.Ytaooenmkofjafaa
end

section
/- Contracts: the champion and the choice. -/
namespace Go.Proofs.Ytaooenmkofjafaa
open Go.Abs Go
set_option maxRecDepth 20000
set_option maxHeartbeats 2000000
attribute [local irreducible] PreK CondK CallK CallG CallX LoopK
attribute [local simp] avsEq avEq akind teq vkind vEq

/-- The first place at which p holds, or -1. -/
def idxG {α : Type} (p : α → Bool) : Nat → List α → Int
  | _, [] => -1
  | k, x :: r => if p x then k else idxG p (k + 1) r
theorem idxG_none {α : Type} (p : α → Bool) : ∀ (l : List α) (k : Nat), (∀ x ∈ l, p x = false) → idxG p k l = -1
  | [], _, _ => rfl
  | x :: r, k, h => by simp [idxG, h x (by simp), idxG_none p r (k + 1) (fun y hy => h y (by simp [hy]))]
theorem idxG_find {α : Type} [Inhabited α] (p : α → Bool) : ∀ (l : List α) (k : Nat) (a : α), l.find? p = some a → ∃ i, i < l.length ∧ idxG p k l = (k + i : Nat) ∧ el l i = a
  | [], _, _, h => by cases h
  | x :: r, k, a, h => by
    by_cases hx : p x = true
    · simp [List.find?, hx] at h
      exact ⟨0, by simp, by simp [idxG, hx], by simp [el, h]⟩
    · have hx' : p x = false := by simpa using hx
      simp only [List.find?, hx'] at h
      obtain ⟨i, h1, h2, h3⟩ := idxG_find p r (k + 1) a h
      refine ⟨i + 1, by simp; omega, ?_, ?_⟩
      · simp only [idxG, hx', Bool.false_eq_true, if_false, h2]; omega
      · rw [← h3]; simp [el]
theorem cIndexFunc_c (s : List Rule) (l : List Step) (hl : l.length ≤ 1000) (f : FuncId) (cap : List AV) (p : Step → Bool) (hp : ∀ x ∈ l, CallP Try.prog f (candS s x :: cap) (bv (p x))) (h1 : ∀ m, snapL m cap = cap) (h2 : AV.refsL cap = []) (h3 : ∀ m, snapOKL m cap) :
    CallP Try.prog 184 [candsV s l, .fn f [] cap] (iv (idxG p 0 l)) := by
  refine C184 (by simp) ?_
  generalize hR : idxG p 0 l = R
  simp [A184]
  refine LoopK.by (fun i : Nat => ⟨[(8, iv i), (7, iv l.length), (0, candsV s l), (1, .fn f [] cap)], []⟩) (fun i => l.length - i) (fun i => i ≤ l.length ∧ idxG p i (l.drop i) = R) 0 (by simpa using hR) (by simp [h2]) ?_
  intro i Q' ⟨hi, hc⟩ hq he hr
  try simp 
  refine CondK.intro (fun h => ?_) (fun h => ?_)
  · simp at h
    have hpi := hp (el l i) (by rw [el_eq l i h]; exact List.getElem_mem h)
    rw [candS_eq] at hpi
    rw [drop_cons l i h] at hc
    simp [h]
    refine CallX.pure (by simpa [h1] using hpi) (by simp [h3]) (by simp) ?_
    try simp 
    refine CondK.intro (fun h4 => ?_) (fun h4 => ?_)
    · simp [idxG, h4] at hc
      try simp 
      apply hr
      simp [hc]
    · simp [idxG, h4] at hc
      try simp 
      repeat' (first
        | ((with_reducible refine PreK.intro ?_ ?_); (next => (first | omega | (intros; first | omega | (refine ⟨by omega, ?_⟩; repeat (first | assumption | constructor)) | assumption))); intro _; try simp )
        | fail)
      exact hq (i + 1) _ ⟨by omega, hc⟩ (by omega) (by simp [h2])
  · simp at h
    rw [List.drop_eq_nil_of_le (by omega)] at hc
    simp [idxG] at hc
    try simp 
    apply he
    simp [hc]
theorem step_eq (a b : Step) : (a = b) ↔ (a.rule = b.rule ∧ a.place = b.place) := by
  cases a; cases b; simp
theorem choice1_c (c b : Cand) : CallP Try.prog 185 [candV c, .ipt (candV b) 0] (bv (decide (c.step ≠ b.step))) := by
  refine C185 (by simp) ?_
  simp [A185]
  rw [Bool.eq_iff_iff]; simp [step_eq]
end Go.Proofs.Ytaooenmkofjafaa
end

section
/- Contracts: the champion, the choice, the derivation. -/
namespace Go.Proofs.Ytaooenmkofjafaa
open Go.Abs Go
set_option maxRecDepth 20000
set_option maxHeartbeats 2000000
attribute [local irreducible] PreK CondK CallK CallG CallX LoopK
attribute [local simp] avsEq avEq akind teq vkind vEq candS_eq

@[simp] def candZ : AV := .agg [iv 0, iv 0, iv 0, .seq 1 [] false, .seq 1 [] false, .seq 1 [] false]
@[simp] def candZ0 : AV := .agg [iv 0, iv 0, iv 0, .seq 1 [] true, .seq 1 [] true, .seq 1 [] true]
theorem topOf_drop (s : List Rule) (w gs : List Int) (a : Step) (l : List Step) (i : Nat) (h : i < l.length) :
    topOf s w gs (l.drop i) a = ((decide (el l i = a) || decide (0 < beatsS s w gs a (el l i))) && topOf s w gs (l.drop (i + 1)) a) := by
  unfold topOf; rw [drop_cons l i h, List.all_cons]
theorem champ_drop (s : List Rule) (w gs : List Int) (a : Step) (l : List Step) (i : Nat) (h : i < l.length) :
    champ s w gs a (l.drop i) = champ s w gs (if beatsS s w gs a (el l i) ≤ 0 then el l i else a) (l.drop (i + 1)) := by
  rw [drop_cons l i h, champ]
theorem champion_c (s : List Rule) (w gs : List Int) (x : Step) (xs : List Step) (hs : Sys.small s) (hw : w.length ≤ 1000) (hg : gOK gs) (hgl : gs.length ≤ 1000) (hl : xs.length ≤ 100) (hok : ∀ y ∈ x :: xs, stepOK s y) :
    CallP Try.prog 114 [ints w, ints gs, candsV s (x :: xs)]
      (.tup [if topOf s w gs (x :: xs) (champ s w gs x xs) then candS s (champ s w gs x xs) else candZ, bv (topOf s w gs (x :: xs) (champ s w gs x xs))]) := by
  refine C114 (by simp) ?_
  generalize hR : champ s w gs x xs = R
  simp [A114]
  try simp 
  repeat' (first
    | ((with_reducible refine PreK.intro ?_ ?_); (next => (first | omega | (intros; first | omega | (refine ⟨by omega, ?_⟩; repeat (first | assumption | constructor)) | assumption))); intro _; try simp )
    | fail)
  refine LoopK.by (ι := Nat × Step) (fun i => ⟨[(19, iv i.1), (18, iv xs.length), (17, candsV s xs), (0, ints w), (1, ints gs), (2, candsV s (x :: xs)), (6, .pt 6 1 0 0), (8, .pt 8 1 0 0)], [(8, some ⟨6, [candS s i.2], 1, true⟩), (6, some ⟨6, [candZ0], 1, true⟩)]⟩) (fun i => xs.length - i.1)
    (fun i => i.1 ≤ xs.length ∧ stepOK s i.2 ∧ champ s w gs i.2 (xs.drop i.1) = R) (0, x) (by simp; exact ⟨hok x (by simp), hR⟩) (by simp) ?_
  intro ⟨i, b⟩ Q' ⟨hi, hb, hc⟩ hq he hr
  dsimp only at hi hb hc
  try simp 
  refine CondK.intro (fun h1 => ?_) (fun h1 => ?_)
  · simp at h1
    have hxi := hok (el xs i) (by rw [el_eq xs i h1]; simp)
    rw [champ_drop s w gs b xs i h1] at hc
    have hbt := beats_c w gs ⟨b, el s b.rule.toNat⟩ ⟨el xs i, el s (el xs i).rule.toNat⟩ hw hg hgl (hb.small hs) (hxi.small hs)
    have hbe : beatsM w gs (el s b.rule.toNat) b (el s (el xs i).rule.toNat) (el xs i) = beatsS s w gs b (el xs i) := rfl
    dsimp only at hbt
    rw [hbe] at hbt
    simp [h1]
    try simp 
    repeat' (first
      | (refine CallX.pure (hbt) (by simp) (by simp) ?_; try simp )
      | (refine CallK.intro (hbt) (by simp) (by simp) ?_; try simp )
      | (refine CallG.intro (fun _ => hbt) (by simp) (by simp) ?_; try simp )
      | ((with_reducible refine PreK.intro ?_ ?_); (next => (first | omega | (intros; first | omega | (refine ⟨by omega, ?_⟩; repeat (first | assumption | constructor)) | assumption))); intro _; try simp )
      | fail)
    refine CondK.intro (fun h2 => ?_) (fun h2 => ?_)
    · simp at h2
      rw [if_pos h2] at hc
      try simp 
      repeat' (first
        | ((with_reducible refine PreK.intro ?_ ?_); (next => (first | omega | (intros; first | omega | (refine ⟨by omega, ?_⟩; repeat (first | assumption | constructor)) | assumption))); intro _; try simp )
        | fail)
      exact hq (i + 1, el xs i) _ ⟨by dsimp only; omega, hxi, hc⟩ (by dsimp only; omega) (by simp)
    · simp at h2
      rw [if_neg (by omega)] at hc
      try simp 
      repeat' (first
        | ((with_reducible refine PreK.intro ?_ ?_); (next => (first | omega | (intros; first | omega | (refine ⟨by omega, ?_⟩; repeat (first | assumption | constructor)) | assumption))); intro _; try simp )
        | fail)
      exact hq (i + 1, b) _ ⟨by dsimp only; omega, hb, hc⟩ (by dsimp only; omega) (by simp)
  · simp at h1
    rw [List.drop_eq_nil_of_le (by omega), champ] at hc
    subst hc
    try simp 
    apply he
    try simp 
    clear hq he hr
    generalize hR2 : topOf s w gs (x :: xs) b = R2
    have hall := hok
    generalize hl2 : x :: xs = l at hR2 hall
    have hll : l.length ≤ 101 := by rw [← hl2]; simp; omega
    refine LoopK.by (fun i : Nat => ⟨[(33, iv i), (32, iv l.length), (31, candsV s l), (0, ints w), (1, ints gs), (6, .pt 6 1 0 0), (8, .pt 8 1 0 0)], [(8, some ⟨6, [candS s b], 1, true⟩), (6, some ⟨6, [candZ0], 1, true⟩)]⟩) (fun i => l.length - i)
      (fun i => i ≤ l.length ∧ topOf s w gs (l.drop i) b = R2) 0 (by simpa using hR2) (by rw [← hl2]; simp) ?_
    intro j Q'' ⟨hj, hc⟩ hq he hr
    try simp 
    refine CondK.intro (fun h3 => ?_) (fun h3 => ?_)
    · simp at h3
      have hxi := hall (el l j) (by rw [el_eq l j h3]; simp)
      rw [topOf_drop s w gs b l j h3] at hc
      have hbt := beats_c w gs ⟨b, el s b.rule.toNat⟩ ⟨el l j, el s (el l j).rule.toNat⟩ hw hg hgl (hb.small hs) (hxi.small hs)
      have hbe : beatsM w gs (el s b.rule.toNat) b (el s (el l j).rule.toNat) (el l j) = beatsS s w gs b (el l j) := rfl
      dsimp only at hbt
      rw [hbe] at hbt
      simp [h3]
      try simp 
      repeat' (first
        | (refine CallX.pure (hbt) (by simp) (by simp) ?_; try simp )
        | (refine CallK.intro (hbt) (by simp) (by simp) ?_; try simp )
        | (refine CallG.intro (fun _ => hbt) (by simp) (by simp) ?_; try simp )
        | ((with_reducible refine PreK.intro ?_ ?_); (next => (first | omega | (intros; first | omega | (refine ⟨by omega, ?_⟩; repeat (first | assumption | constructor)) | assumption))); intro _; try simp )
        | fail)
      have hcond : ((!decide ((el l j).rule = b.rule) || !decide ((el l j).place = b.place)) && decide (beatsS s w gs b (el l j) ≤ 0)) = !(decide (el l j = b) || decide (0 < beatsS s w gs b (el l j))) := by
        have e1 : decide (el l j = b) = (decide ((el l j).rule = b.rule) && decide ((el l j).place = b.place)) := by rw [Bool.eq_iff_iff]; simp [step_eq]
        have e2 : decide (beatsS s w gs b (el l j) ≤ 0) = !decide (0 < beatsS s w gs b (el l j)) := by rw [Bool.eq_iff_iff]; simp
        rw [e1, e2]
        cases decide ((el l j).rule = b.rule) <;> cases decide ((el l j).place = b.place) <;> cases decide (0 < beatsS s w gs b (el l j)) <;> rfl
      rw [hcond]
      generalize (decide (el l j = b) || decide (0 < beatsS s w gs b (el l j))) = z at hc
      refine CondK.intro (fun h4 => ?_) (fun h4 => ?_)
      · have : z = false := by simpa using h4
        subst this
        simp at hc
        try simp 
        repeat' (first
          | ((with_reducible refine PreK.intro ?_ ?_); (next => (first | omega | (intros; first | omega | (refine ⟨by omega, ?_⟩; repeat (first | assumption | constructor)) | assumption))); intro _; try simp )
          | fail)
        apply hr
        simp [hc]
      · have : z = true := by simpa using h4
        subst this
        simp at hc
        try simp 
        repeat' (first
          | ((with_reducible refine PreK.intro ?_ ?_); (next => (first | omega | (intros; first | omega | (refine ⟨by omega, ?_⟩; repeat (first | assumption | constructor)) | assumption))); intro _; try simp )
          | fail)
        exact hq (j + 1) _ ⟨by omega, hc⟩ (by omega) (by simp)
    · simp at h3
      rw [List.drop_eq_nil_of_le (by omega)] at hc
      have hc2 : R2 = true := by rw [← hc]; rfl
      try simp 
      apply he
      simp [hc2]
theorem apply_c (s : List Rule) (w : List Int) (c : Choice) (hs : Sys.small s) (hw : w.length ≤ 1000) (h0 : 0 ≤ c.rule) (h1 : c.rule < s.length) : CallP Try.prog 117 [rulesV s, ints w, choiceV c] (ints (nextW s w c)) := by
  refine C117 (by simp) ?_
  have o5 : c.rule.toNat < s.length := by omega
  simp [A117]
  try simp [o5]
  repeat' (first
    | (refine CallX.pure (Apply_c (el s c.rule.toNat) w c.place (hs.el o5) hw) (by simp) (by simp) ?_; try simp [o5])
    | (refine CallK.intro (Apply_c (el s c.rule.toNat) w c.place (hs.el o5) hw) (by simp) (by simp) ?_; try simp [o5])
    | (refine CallG.intro (fun _ => Apply_c (el s c.rule.toNat) w c.place (hs.el o5) hw) (by simp) (by simp) ?_; try simp [o5])
    | ((with_reducible refine PreK.intro ?_ ?_); (next => (first | omega | (intros; first | omega | (refine ⟨by omega, ?_⟩; repeat (first | assumption | constructor)) | assumption))); intro _; try simp [o5])
    | fail)
  simp [nextW]
end Go.Proofs.Ytaooenmkofjafaa
end

section
/- Contracts: the choice and the derivation. -/
namespace Go.Proofs.Ytaooenmkofjafaa
open Go.Abs Go
set_option maxRecDepth 20000
set_option maxHeartbeats 2000000
attribute [local irreducible] PreK CondK CallK CallG CallX LoopK
attribute [local simp] avsEq avEq akind teq vkind vEq candS_eq

theorem choice_c (s : List Rule) (w gs : List Int) (hs : Sys.small s) (hw : w.length ≤ 1000) (hg : gOK gs) (hgl : gs.length ≤ 1000) :
    CallP Try.prog 111 [rulesV s, ints w, ints gs] (.tup [choiceV ((choiceM s w gs).getD ⟨0, 0, 0⟩), bv (choiceM s w gs).isSome]) := by
  refine C111 (by simp) ?_
  have hcd := candidates_c s w hs hw
  have hok : ∀ x ∈ stepsM s w, stepOK s x := stepsM_ok
  have hlen : (stepsM s w).length ≤ 54 := stepsM_len
  generalize hR : choiceM s w gs = R
  unfold choiceM at hR
  simp [A111]
  generalize stepsM s w = l at hcd hok hlen hR
  try simp 
  repeat' (first
    | (refine CallX.pure (hcd) (by simp) (by simp) ?_; try simp )
    | (refine CallK.intro (hcd) (by simp) (by simp) ?_; try simp )
    | (refine CallG.intro (fun _ => hcd) (by simp) (by simp) ?_; try simp )
    | ((with_reducible refine PreK.intro ?_ ?_); (next => (first | omega | (intros; first | omega | (refine ⟨by omega, ?_⟩; repeat (first | assumption | constructor)) | assumption))); intro _; try simp )
    | fail)
  match l with
  | [] =>
    dsimp only at hR
    subst hR
    try simp 
    repeat' (first
      | ((with_reducible refine PreK.intro ?_ ?_); (next => (first | omega | (intros; first | omega | (refine ⟨by omega, ?_⟩; repeat (first | assumption | constructor)) | assumption))); intro _; try simp )
      | fail)
    refine CondK.intro (fun h1 => ?_) (fun h1 => ?_)
    · try simp 
      repeat' (first
        | ((with_reducible refine PreK.intro ?_ ?_); (next => (first | omega | (intros; first | omega | (refine ⟨by omega, ?_⟩; repeat (first | assumption | constructor)) | assumption))); intro _; try simp )
        | fail)
    · simp at h1
  | x :: xs =>
    have hch := champion_c s w gs x xs hs hw hg hgl (by simp at hlen; omega) hok
    dsimp only at hR
    rw [bestM_champ] at hR
    have hmem := champ_mem s w gs xs x
    generalize champ s w gs x xs = b at hR hch hmem
    have hbok := hok b hmem
    have hcm : ∀ y ∈ x :: xs, CallP Try.prog 185 (candS s y :: [.ipt (candS s b) 0]) (bv (decide (y ≠ b))) := fun y _ => choice1_c ⟨y, el s y.rule.toNat⟩ ⟨b, el s b.rule.toNat⟩
    have hidx := cIndexFunc_c s (x :: xs) (by omega) 185 [.ipt (candS s b) 0] (fun y => decide (y ≠ b)) hcm (by intro m; simp) (by simp) (by intro m; simp)
    by_cases ht : topOf s w gs (x :: xs) b = true
    · rw [if_pos ht] at hR
      rw [if_pos ht, ht] at hch
      dsimp only at hR
      try simp 
      repeat' (first
        | ((with_reducible refine PreK.intro ?_ ?_); (next => (first | omega | (intros; first | omega | (refine ⟨by omega, ?_⟩; repeat (first | assumption | constructor)) | assumption))); intro _; try simp )
        | fail)
      refine CondK.intro (fun h1 => ?_) (fun h1 => ?_)
      · simp at h1
      · simp at h1
        try simp 
        repeat' (first
          | (refine CallX.pure (hch) (by simp) (by simp) ?_; try simp )
          | (refine CallK.intro (hch) (by simp) (by simp) ?_; try simp )
          | (refine CallG.intro (fun _ => hch) (by simp) (by simp) ?_; try simp )
          | ((with_reducible refine PreK.intro ?_ ?_); (next => (first | omega | (intros; first | omega | (refine ⟨by omega, ?_⟩; repeat (first | assumption | constructor)) | assumption))); intro _; try simp )
          | fail)
        refine CondK.intro (fun h2 => ?_) (fun h2 => ?_)
        · simp at h2
        · try simp 
          repeat' (first
            | (refine CallX.pure (hidx) (by simp) (by simp) ?_; try simp )
            | (refine CallK.intro (hidx) (by simp) (by simp) ?_; try simp )
            | (refine CallG.intro (fun _ => hidx) (by simp) (by simp) ?_; try simp )
            | ((with_reducible refine PreK.intro ?_ ?_); (next => (first | omega | (intros; first | omega | (refine ⟨by omega, ?_⟩; repeat (first | assumption | constructor)) | assumption))); intro _; try simp )
            | fail)
          generalize hl2 : x :: xs = l at hR hidx hok hcm
          have hll : l.length ≤ 54 := by rw [← hl2]; exact hlen
          have hp : (fun y => decide (y ≠ b)) = (fun y => !decide (y = b)) := by funext y; simp
          have hm2 : List.map (candS s) l = candS s x :: List.map (candS s) xs := by rw [← hl2]; rfl
          cases hf : l.find? (fun y => decide (y ≠ b)) with
          | none =>
            rw [hf] at hR
            dsimp only at hR
            have hno : idxG (fun y => decide (y ≠ b)) 0 l = -1 := idxG_none _ l 0 (fun y hy => by simpa using List.find?_eq_none.1 hf y hy)
            rw [hp] at hno
            subst hR
            rw [hno]
            refine CondK.intro (fun h3 => ?_) (fun h3 => ?_)
            · simp at h3
            · try simp 
              repeat' (first
                | ((with_reducible refine PreK.intro ?_ ?_); (next => (first | omega | (intros; first | omega | (refine ⟨by omega, ?_⟩; repeat (first | assumption | constructor)) | assumption))); intro _; try simp )
                | fail)
          | some a =>
            rw [hf] at hR
            dsimp only at hR
            obtain ⟨i, hi1, hi2, hi3⟩ := idxG_find _ l 0 a hf
            have hnth2 := nth_cand s l i
            rw [hp] at hi2
            rw [hi3] at hnth2
            have hnth : nth (candS s x :: List.map (candS s) xs) i = candV ⟨a, el s a.rule.toNat⟩ := by rw [← hm2]; exact hnth2 hi1
            simp at hnth hi2
            have hai : stepOK s a := hok a (List.mem_of_find?_eq_some hf)
            have hlx : l.length = xs.length + 1 := by rw [← hl2]; simp
            rw [hi2]
            have hbt := beats_c w gs ⟨b, el s b.rule.toNat⟩ ⟨a, el s a.rule.toNat⟩ hw hg hgl (hbok.small hs) (hai.small hs)
            subst hR
            refine CondK.intro (fun h3 => ?_) (fun h3 => ?_)
            · try simp [hnth]
              repeat' (first
                | (refine CallX.pure (hbt) (by simp) (by simp) ?_; try simp [hnth])
                | (refine CallK.intro (hbt) (by simp) (by simp) ?_; try simp [hnth])
                | (refine CallG.intro (fun _ => hbt) (by simp) (by simp) ?_; try simp [hnth])
                | ((with_reducible refine PreK.intro ?_ ?_); (next => (first | omega | (intros; first | omega | (refine ⟨by omega, ?_⟩; repeat (first | assumption | constructor)) | assumption))); intro _; try simp [hnth])
                | fail)
              rfl
            · simp at h3
    · have ht' : topOf s w gs (x :: xs) b = false := by simpa using ht
      rw [if_neg ht] at hR
      rw [if_neg ht, ht'] at hch
      dsimp only at hR
      try simp 
      repeat' (first
        | ((with_reducible refine PreK.intro ?_ ?_); (next => (first | omega | (intros; first | omega | (refine ⟨by omega, ?_⟩; repeat (first | assumption | constructor)) | assumption))); intro _; try simp )
        | fail)
      refine CondK.intro (fun h1 => ?_) (fun h1 => ?_)
      · simp at h1
      · simp at h1
        try simp 
        repeat' (first
          | (refine CallX.pure (hch) (by simp) (by simp) ?_; try simp )
          | (refine CallK.intro (hch) (by simp) (by simp) ?_; try simp )
          | (refine CallG.intro (fun _ => hch) (by simp) (by simp) ?_; try simp )
          | ((with_reducible refine PreK.intro ?_ ?_); (next => (first | omega | (intros; first | omega | (refine ⟨by omega, ?_⟩; repeat (first | assumption | constructor)) | assumption))); intro _; try simp )
          | fail)
        refine CondK.intro (fun h2 => ?_) (fun h2 => ?_)
        · have hlast : stepOK s (el (x :: xs) xs.length) := hok _ (by rw [el_eq _ _ (by simp)]; exact List.getElem_mem _)
          have e1 : (((xs.length : Int) + 1) - 1).toNat = xs.length := by omega
          have e2 : xs.length < (x :: xs).length := by simp
          have hnth := nth_cand s (x :: xs) xs.length e2
          simp at hnth
          try simp [hnth]
          repeat' (first
            | ((with_reducible refine PreK.intro ?_ ?_); (next => (first | omega | (intros; first | omega | (refine ⟨by omega, ?_⟩; repeat (first | assumption | constructor)) | assumption))); intro _; try simp [hnth])
            | fail)
          subst hR
          simp
        · simp at h2
end Go.Proofs.Ytaooenmkofjafaa
end

section
/- Contracts: the derivation of the program. -/
namespace Go.Proofs.Ytaooenmkofjafaa
open Go.Abs Go
set_option maxRecDepth 20000
set_option maxHeartbeats 2000000
attribute [local irreducible] PreK CondK CallK CallG CallX LoopK
attribute [local simp] avsEq avEq akind teq vkind vEq

/-- A derivation of at most n choices, the word at its end, and whether it ends there. -/
def deriveR (s : List Rule) (gs : List Int) : Nat → List Int → List Choice × List Int × Bool
  | n, w => match choiceM s w gs with
    | none => ([], w, true)
    | some c => match n with
      | 0 => ([], w, false)
      | n + 1 => (c :: (deriveR s gs n (nextW s w c)).1, (deriveR s gs n (nextW s w c)).2.1, (deriveR s gs n (nextW s w c)).2.2)
theorem deriveR_none {s : List Rule} {gs w : List Int} {n : Nat} (h : choiceM s w gs = none) : deriveR s gs n w = ([], w, true) := by
  unfold deriveR; rw [h]
theorem deriveR_zero {s : List Rule} {gs w : List Int} {c : Choice} (h : choiceM s w gs = some c) : deriveR s gs 0 w = ([], w, false) := by
  unfold deriveR; rw [h]
theorem deriveR_succ {s : List Rule} {gs w : List Int} {c : Choice} {n : Nat} (h : choiceM s w gs = some c) :
    deriveR s gs (n + 1) w = (c :: (deriveR s gs n (nextW s w c)).1, (deriveR s gs n (nextW s w c)).2.1, (deriveR s gs n (nextW s w c)).2.2) := by
  rw [deriveR, h]
def DeriveR (s : List Rule) (w gs : List Int) : List Choice × List Int × Int :=
  if orderErr s w gs ≠ 0 then ([], [], orderErr s w gs) else if (deriveR s gs 60 w).2.2 then ((deriveR s gs 60 w).1, (deriveR s gs 60 w).2.1, 0) else ([], [], 3)
def choiceOK (s : List Rule) (c : Choice) : Prop := 0 ≤ c.rule ∧ c.rule < s.length ∧ 0 ≤ c.place ∧ c.place ≤ 8
theorem choiceM_ok {s : List Rule} {w gs : List Int} {c : Choice} (h : choiceM s w gs = some c) : choiceOK s c := by
  have hok : ∀ x ∈ stepsM s w, stepOK s x := stepsM_ok
  unfold choiceM at h
  generalize stepsM s w = l at hok h
  match l with
  | [] => simp at h
  | x :: xs =>
    dsimp only at h
    cases hb : bestM s w gs (x :: xs) with
    | none =>
      rw [hb] at h
      simp only [Option.some.injEq] at h
      subst h
      exact hok _ (by rw [el_eq _ _ (by simp)]; exact List.getElem_mem _)
    | some a =>
      rw [hb] at h
      simp only [Option.some.injEq] at h
      subst h
      exact hok a (List.mem_of_find?_eq_some hb)
theorem nextW_len (s : List Rule) (w : List Int) (c : Choice) : (nextW s w c).length ≤ 8 := applyM_len _ _ _
theorem derive_c (s : List Rule) (w gs : List Int) (hs : Sys.small s) (hw : w.length ≤ 1000) (hg : gOK gs) (hgl : gs.length ≤ 1000) :
    CallP Try.prog 108 [rulesV s, ints w, ints gs] (.tup [choicesV (if (deriveR s gs 60 w).2.2 then (deriveR s gs 60 w).1 else []), ints (if (deriveR s gs 60 w).2.2 then (deriveR s gs 60 w).2.1 else []), iv (if (deriveR s gs 60 w).2.2 then 0 else 3)]) := by
  refine C108 (by simp) ?_
  generalize hR : deriveR s gs 60 w = R
  obtain ⟨R1, R2, R3⟩ := R
  dsimp only
  simp [A108]
  try simp 
  repeat' (first
    | (refine CallX.pure ((clone_o w hw).toP) (by simp) (by simp) ?_; try simp )
    | (refine CallK.intro ((clone_o w hw).toP) (by simp) (by simp) ?_; try simp )
    | (refine CallG.intro (fun _ => (clone_o w hw).toP) (by simp) (by simp) ?_; try simp )
    | ((with_reducible refine PreK.intro ?_ ?_); (next => (first | omega | (intros; first | omega | (refine ⟨by omega, ?_⟩; repeat (first | assumption | constructor)) | assumption))); intro _; try simp )
    | fail)
  refine LoopK.by (ι := Nat × Nat × List Int × List Choice) (fun i => ⟨[(0, rulesV s), (1, ints i.2.2.1), (2, ints gs), (9, .sl 9 i.2.1 0 i.2.2.2.length)], [(9, some ⟨3, i.2.2.2.map choiceV, i.2.1, false⟩)]⟩) (fun i => i.1)
    (fun i => i.2.2.2.length + i.1 = 60 ∧ i.2.2.1.length ≤ 1000 ∧ i.2.2.2 ++ (deriveR s gs i.1 i.2.2.1).1 = R1 ∧ (deriveR s gs i.1 i.2.2.1).2 = (R2, R3)) (60, 1, w, []) (by simp [hR, hw]) (by simp) ?_
  intro ⟨n, ver, v, acc⟩ Q' ⟨hn, hv, hc1, hc2⟩ hq he hr
  dsimp only at hn hv hc1 hc2
  have hch := choice_c s v gs hs hv hg hgl
  cases hcm : choiceM s v gs with
  | none =>
    rw [hcm] at hch
    rw [deriveR_none hcm] at hc1 hc2
    simp at hc1 hc2 hch
    obtain ⟨rfl, rfl⟩ := hc2
    subst hc1
    try simp 
    repeat' (first
      | (refine CallX.pure (hch) (by simp) (by simp) ?_; try simp )
      | (refine CallK.intro (hch) (by simp) (by simp) ?_; try simp )
      | (refine CallG.intro (fun _ => hch) (by simp) (by simp) ?_; try simp )
      | ((with_reducible refine PreK.intro ?_ ?_); (next => (first | omega | (intros; first | omega | (refine ⟨by omega, ?_⟩; repeat (first | assumption | constructor)) | assumption))); intro _; try simp )
      | fail)
    refine CondK.intro (fun h1 => ?_) (fun h1 => ?_)
    · try simp 
      repeat' (first
        | ((with_reducible refine PreK.intro ?_ ?_); (next => (first | omega | (intros; first | omega | (refine ⟨by omega, ?_⟩; repeat (first | assumption | constructor)) | assumption))); intro _; try simp )
        | fail)
      apply hr
      simp
    · simp at h1
  | some c =>
    rw [hcm] at hch
    simp at hch
    have hco := choiceM_ok hcm
    have hap := apply_c s v c hs hv hco.1 hco.2.1
    have hnl := nextW_len s v c
    try simp 
    repeat' (first
      | (refine CallX.pure (hch) (by simp) (by simp) ?_; try simp )
      | (refine CallK.intro (hch) (by simp) (by simp) ?_; try simp )
      | (refine CallG.intro (fun _ => hch) (by simp) (by simp) ?_; try simp )
      | ((with_reducible refine PreK.intro ?_ ?_); (next => (first | omega | (intros; first | omega | (refine ⟨by omega, ?_⟩; repeat (first | assumption | constructor)) | assumption))); intro _; try simp )
      | fail)
    refine CondK.intro (fun h1 => ?_) (fun h1 => ?_)
    · simp at h1
    · try simp 
      repeat' (first
        | ((with_reducible refine PreK.intro ?_ ?_); (next => (first | omega | (intros; first | omega | (refine ⟨by omega, ?_⟩; repeat (first | assumption | constructor)) | assumption))); intro _; try simp )
        | fail)
      refine CondK.intro (fun h2 => ?_) (fun h2 => ?_)
      · have hn0 : n = 0 := by simp at h2; omega
        subst hn0
        rw [deriveR_zero hcm] at hc1 hc2
        simp at hc1 hc2
        obtain ⟨rfl, rfl⟩ := hc2
        try simp 
        repeat' (first
          | ((with_reducible refine PreK.intro ?_ ?_); (next => (first | omega | (intros; first | omega | (refine ⟨by omega, ?_⟩; repeat (first | assumption | constructor)) | assumption))); intro _; try simp )
          | fail)
        apply hr
        simp
      · have hn0 : acc.length ≠ 60 := by simp at h2; omega
        obtain ⟨m, rfl⟩ : ∃ m, n = m + 1 := ⟨n - 1, by omega⟩
        rw [deriveR_succ hcm] at hc1 hc2
        try simp 
        repeat' (first
          | (refine CallX.pure (hap) (by simp) (by simp) ?_; try simp )
          | (refine CallK.intro (hap) (by simp) (by simp) ?_; try simp )
          | (refine CallG.intro (fun _ => hap) (by simp) (by simp) ?_; try simp )
          | ((with_reducible refine PreK.intro ?_ ?_); (next => (first | omega | (intros; first | omega | (refine ⟨by omega, ?_⟩; repeat (first | assumption | constructor)) | assumption))); intro _; try simp )
          | fail)
        exact hq (m, ver + 1, nextW s v c, acc ++ [c]) _ ⟨by simp; omega, by dsimp only; omega, by simpa using hc1, by rw [Prod.ext_iff]; simpa using hc2⟩ (by dsimp only; omega) (by simp)
end Go.Proofs.Ytaooenmkofjafaa
end

section
/- Functions of the cut as the value layer reads them. (written by gen.py) -/
set_option maxRecDepth 20000
namespace Go.Proofs.Ytaooenmkofjafaa
open Go.Abs Go

def A133 : ACode :=
  (.seq (.reg [] [⟨some 2, (.assign (.const (.bool false))), 4, none⟩])
    (.seq (.reg [] [⟨some 3, (.move (.tmp 0)), 3, none⟩,
      ⟨some 4, (.binOp .lss 3 (.tmp 3) (.const (.int .i64 1)) 3), 4, none⟩,
      ⟨some 5, (.move (.tmp 4)), 4, none⟩,
      ⟨some 6, (.move (.tmp 0)), 3, some (5, false)⟩,
      ⟨some 7, (.binOp .gtr 3 (.tmp 6) (.const (.int .i64 4)) 3), 4, some (5, false)⟩,
      ⟨some 8, (.pick (.tmp 5) (.const (.bool true)) (.tmp 7)), 4, none⟩,
      ⟨some 2, (.assign (.tmp 8)), 4, none⟩])
    .ret))
theorem C133 {args : List AV} {r : AV} (hn : args.length ≤ 9) (h : vc Try.prog T [] A133 (Fin T [(.tmp 2)] r) ⟨envOf 0 args, []⟩) : CallP Try.prog 133 args r :=
  callP_of tok mixed Try.func133 (by kernel_rfl) (by kernel_rfl) (by kernel_rfl : Try.f133.ntmps = 9) (by kernel_rfl : Try.f133.body.bind (strip 9 (fun _ => [])) = some A133) hn h
def A10 : ACode :=
  (.seq (.reg [] [⟨some 4, (.assign (.const (.bool false))), 4, none⟩])
    (.seq (.seq (.reg [] [⟨some 13, (.move (.tmp 0)), 23, none⟩,
      ⟨some 14, (.call ⟨(.builtin .len), #[(.tmp 13)], #[23]⟩), 3, none⟩,
      ⟨some 15, (.binOp .gtr 3 (.tmp 14) (.const (.int .i64 50)) 3), 4, none⟩])
    (.cond (.tmp 15)
    (.seq (.reg [] [⟨some 16, (.call ⟨(.value (.func 28)), #[], #[]⟩), 4, none⟩,
      ⟨some 4, (.assign (.tmp 16)), 4, none⟩])
    .ret)
    .skip))
    (.seq (.reg [] [⟨some 18, (.move (.tmp 0)), 23, none⟩,
      ⟨some 19, (.move (.tmp 1)), 3, none⟩,
      ⟨some 20, (.call ⟨(.value (.func 48)), #[(.tmp 18), (.tmp 19)], #[23, 3]⟩), 32, none⟩,
      ⟨some 17, (.move (.tmp 20)), 32, none⟩,
      ⟨some 21, (.extract (.tmp 17) 0), 23, none⟩,
      ⟨some 22, (.extract (.tmp 17) 1), 29, none⟩,
      ⟨some 5, (.assign (.tmp 21)), 23, none⟩,
      ⟨some 6, (.assign (.tmp 22)), 29, none⟩])
    (.seq (.reg [] [⟨some 24, (.move (.tmp 0)), 23, none⟩,
      ⟨some 25, (.move (.tmp 1)), 3, none⟩,
      ⟨some 26, (.call ⟨(.value (.func 49)), #[(.tmp 24), (.tmp 25)], #[23, 3]⟩), 32, none⟩,
      ⟨some 23, (.move (.tmp 26)), 32, none⟩,
      ⟨some 27, (.extract (.tmp 23) 0), 23, none⟩,
      ⟨some 28, (.extract (.tmp 23) 1), 29, none⟩,
      ⟨some 7, (.assign (.tmp 27)), 23, none⟩,
      ⟨some 8, (.assign (.tmp 28)), 29, none⟩])
    (.seq (.reg [] [⟨some 30, (.move (.tmp 0)), 23, none⟩,
      ⟨some 31, (.move (.tmp 1)), 3, none⟩,
      ⟨some 32, (.call ⟨(.value (.func 50)), #[(.tmp 30), (.tmp 31)], #[23, 3]⟩), 32, none⟩,
      ⟨some 29, (.move (.tmp 32)), 32, none⟩,
      ⟨some 33, (.extract (.tmp 29) 0), 23, none⟩,
      ⟨some 34, (.extract (.tmp 29) 1), 29, none⟩,
      ⟨some 9, (.assign (.tmp 33)), 23, none⟩,
      ⟨some 10, (.assign (.tmp 34)), 29, none⟩])
    (.seq (.reg [] [⟨some 36, (.move (.tmp 0)), 23, none⟩,
      ⟨some 37, (.move (.tmp 1)), 3, none⟩,
      ⟨some 38, (.call ⟨(.value (.func 51)), #[(.tmp 36), (.tmp 37)], #[23, 3]⟩), 32, none⟩,
      ⟨some 35, (.move (.tmp 38)), 32, none⟩,
      ⟨some 39, (.extract (.tmp 35) 0), 23, none⟩,
      ⟨some 40, (.extract (.tmp 35) 1), 29, none⟩,
      ⟨some 11, (.assign (.tmp 39)), 23, none⟩,
      ⟨some 12, (.assign (.tmp 40)), 29, none⟩])
    (.seq (.reg [] [⟨some 41, (.move (.tmp 0)), 23, none⟩,
      ⟨some 42, (.call ⟨(.value (.func 52)), #[(.tmp 41)], #[23]⟩), 29, none⟩,
      ⟨some 43, (.move (.tmp 0)), 23, none⟩,
      ⟨some 44, (.call ⟨(.value (.func 53)), #[(.tmp 43)], #[23]⟩), 29, none⟩,
      ⟨some 45, (.binOp .eql 29 (.tmp 42) (.tmp 44) 29), 4, none⟩,
      ⟨some 46, (.move (.tmp 45)), 4, none⟩,
      ⟨some 47, (.move (.tmp 5)), 23, some (46, true)⟩,
      ⟨some 48, (.move (.tmp 7)), 23, some (46, true)⟩,
      ⟨some 49, (.call ⟨(.value (.func 33)), #[(.tmp 47), (.tmp 48)], #[23, 23]⟩), 4, some (46, true)⟩,
      ⟨some 50, (.pick (.tmp 46) (.tmp 49) (.const (.bool false))), 4, none⟩,
      ⟨some 51, (.move (.tmp 50)), 4, none⟩,
      ⟨some 52, (.move (.tmp 6)), 29, some (51, true)⟩,
      ⟨some 53, (.move (.tmp 8)), 29, some (51, true)⟩,
      ⟨some 54, (.binOp .eql 29 (.tmp 52) (.tmp 53) 29), 4, some (51, true)⟩,
      ⟨some 55, (.pick (.tmp 51) (.tmp 54) (.const (.bool false))), 4, none⟩,
      ⟨some 56, (.move (.tmp 55)), 4, none⟩,
      ⟨some 57, (.move (.tmp 9)), 23, some (56, true)⟩,
      ⟨some 58, (.move (.tmp 11)), 23, some (56, true)⟩,
      ⟨some 59, (.call ⟨(.value (.func 33)), #[(.tmp 57), (.tmp 58)], #[23, 23]⟩), 4, some (56, true)⟩,
      ⟨some 60, (.pick (.tmp 56) (.tmp 59) (.const (.bool false))), 4, none⟩,
      ⟨some 61, (.move (.tmp 60)), 4, none⟩,
      ⟨some 62, (.move (.tmp 10)), 29, some (61, true)⟩,
      ⟨some 63, (.move (.tmp 12)), 29, some (61, true)⟩,
      ⟨some 64, (.binOp .eql 29 (.tmp 62) (.tmp 63) 29), 4, some (61, true)⟩,
      ⟨some 65, (.pick (.tmp 61) (.tmp 64) (.const (.bool false))), 4, none⟩,
      ⟨some 66, (.move (.tmp 65)), 4, none⟩,
      ⟨some 67, (.call ⟨(.value (.func 28)), #[], #[]⟩), 4, some (66, true)⟩,
      ⟨some 68, (.pick (.tmp 66) (.tmp 67) (.const (.bool false))), 4, none⟩,
      ⟨some 4, (.assign (.tmp 68)), 4, none⟩])
    .ret)))))))
theorem C10 {args : List AV} {r : AV} (hn : args.length ≤ 69) (h : vc Try.prog T [] A10 (Fin T [(.tmp 4)] r) ⟨envOf 0 args, []⟩) : CallP Try.prog 10 args r :=
  callP_of tok mixed Try.func10 (by kernel_rfl) (by kernel_rfl) (by kernel_rfl : Try.f10.ntmps = 69) (by kernel_rfl : Try.f10.body.bind (strip 69 (fun _ => [])) = some A10) hn h
def A9 : ACode :=
  (.seq (.reg [] [⟨some 2, (.box 25 (.tmp 0)), 0, none⟩,
      ⟨some 4, (.assign (.const (.bool false))), 4, none⟩])
    (.seq (.seq (.reg [] [⟨some 15, (.load 25 (.tmp 2)), 25, none⟩,
      ⟨some 16, (.call ⟨(.value (.func 27)), #[(.tmp 15)], #[25]⟩), 4, none⟩,
      ⟨some 17, (.move (.tmp 16)), 4, none⟩,
      ⟨some 18, (.move (.tmp 1)), 23, some (17, false)⟩,
      ⟨some 19, (.call ⟨(.builtin .len), #[(.tmp 18)], #[23]⟩), 3, some (17, false)⟩,
      ⟨some 20, (.binOp .gtr 3 (.tmp 19) (.const (.int .i64 50)) 3), 4, some (17, false)⟩,
      ⟨some 21, (.pick (.tmp 17) (.const (.bool true)) (.tmp 20)), 4, none⟩])
    (.cond (.tmp 21)
    (.seq (.reg [] [⟨some 22, (.call ⟨(.value (.func 28)), #[], #[]⟩), 4, none⟩,
      ⟨some 4, (.assign (.tmp 22)), 4, none⟩])
    .ret)
    .skip))
    (.seq (.reg [] [⟨some 24, (.fieldAddr 25 (.tmp 2) 0), 0, none⟩,
      ⟨some 25, (.load 22 (.tmp 24)), 22, none⟩,
      ⟨some 26, (.fieldAddr 25 (.tmp 2) 1), 0, none⟩,
      ⟨some 27, (.load 23 (.tmp 26)), 23, none⟩,
      ⟨some 28, (.fieldAddr 25 (.tmp 2) 2), 0, none⟩,
      ⟨some 29, (.load 23 (.tmp 28)), 23, none⟩,
      ⟨some 30, (.move (.tmp 1)), 23, none⟩,
      ⟨some 31, (.call ⟨(.value (.func 46)), #[(.tmp 25), (.tmp 27), (.tmp 29), (.tmp 30)], #[22, 23, 23, 23]⟩), 54, none⟩,
      ⟨some 23, (.move (.tmp 31)), 54, none⟩,
      ⟨some 32, (.extract (.tmp 23) 0), 3, none⟩,
      ⟨some 33, (.extract (.tmp 23) 1), 4, none⟩,
      ⟨some 34, (.extract (.tmp 23) 2), 29, none⟩,
      ⟨some 5, (.assign (.tmp 32)), 3, none⟩,
      ⟨some 6, (.assign (.tmp 33)), 4, none⟩,
      ⟨some 7, (.assign (.tmp 34)), 29, none⟩])
    (.seq (.reg [] [⟨some 36, (.fieldAddr 25 (.tmp 2) 0), 0, none⟩,
      ⟨some 37, (.load 22 (.tmp 36)), 22, none⟩,
      ⟨some 38, (.fieldAddr 25 (.tmp 2) 1), 0, none⟩,
      ⟨some 39, (.load 23 (.tmp 38)), 23, none⟩,
      ⟨some 40, (.fieldAddr 25 (.tmp 2) 2), 0, none⟩,
      ⟨some 41, (.load 23 (.tmp 40)), 23, none⟩,
      ⟨some 42, (.move (.tmp 1)), 23, none⟩,
      ⟨some 43, (.call ⟨(.value (.func 47)), #[(.tmp 37), (.tmp 39), (.tmp 41), (.tmp 42)], #[22, 23, 23, 23]⟩), 54, none⟩,
      ⟨some 35, (.move (.tmp 43)), 54, none⟩,
      ⟨some 44, (.extract (.tmp 35) 0), 3, none⟩,
      ⟨some 45, (.extract (.tmp 35) 1), 4, none⟩,
      ⟨some 46, (.extract (.tmp 35) 2), 29, none⟩,
      ⟨some 8, (.assign (.tmp 44)), 3, none⟩,
      ⟨some 9, (.assign (.tmp 45)), 4, none⟩,
      ⟨some 10, (.assign (.tmp 46)), 29, none⟩])
    (.seq (.seq (.reg [] [⟨some 47, (.move (.tmp 5)), 3, none⟩,
      ⟨some 48, (.move (.tmp 8)), 3, none⟩,
      ⟨some 49, (.binOp .neq 3 (.tmp 47) (.tmp 48) 3), 4, none⟩,
      ⟨some 50, (.move (.tmp 49)), 4, none⟩,
      ⟨some 51, (.move (.tmp 6)), 4, some (50, false)⟩,
      ⟨some 52, (.move (.tmp 9)), 4, some (50, false)⟩,
      ⟨some 53, (.binOp .neq 4 (.tmp 51) (.tmp 52) 4), 4, some (50, false)⟩,
      ⟨some 54, (.pick (.tmp 50) (.const (.bool true)) (.tmp 53)), 4, none⟩,
      ⟨some 55, (.move (.tmp 54)), 4, none⟩,
      ⟨some 56, (.move (.tmp 7)), 29, some (55, false)⟩,
      ⟨some 57, (.move (.tmp 10)), 29, some (55, false)⟩,
      ⟨some 58, (.binOp .neq 29 (.tmp 56) (.tmp 57) 29), 4, some (55, false)⟩,
      ⟨some 59, (.pick (.tmp 55) (.const (.bool true)) (.tmp 58)), 4, none⟩])
    (.cond (.tmp 59)
    (.seq (.reg [] [⟨some 4, (.assign (.const (.bool false))), 4, none⟩])
    .ret)
    .skip))
    (.seq (.seq (.reg [] [⟨some 60, (.move (.tmp 7)), 29, none⟩,
      ⟨some 61, (.binOp .neq 29 (.tmp 60) (.const (.int .i64 0)) 29), 4, none⟩,
      ⟨some 62, (.move (.tmp 61)), 4, none⟩,
      ⟨some 63, (.move (.tmp 6)), 4, some (62, false)⟩,
      ⟨some 64, (.pick (.tmp 62) (.const (.bool true)) (.tmp 63)), 4, none⟩])
    (.cond (.tmp 64)
    (.seq (.reg [] [⟨some 65, (.call ⟨(.value (.func 28)), #[], #[]⟩), 4, none⟩,
      ⟨some 4, (.assign (.tmp 65)), 4, none⟩])
    .ret)
    .skip))
    (.seq (.reg [] [⟨some 67, (.fieldAddr 25 (.tmp 2) 0), 0, none⟩,
      ⟨some 68, (.load 22 (.tmp 67)), 22, none⟩,
      ⟨some 69, (.fieldAddr 25 (.tmp 2) 1), 0, none⟩,
      ⟨some 70, (.load 23 (.tmp 69)), 23, none⟩,
      ⟨some 71, (.fieldAddr 25 (.tmp 2) 2), 0, none⟩,
      ⟨some 72, (.load 23 (.tmp 71)), 23, none⟩,
      ⟨some 73, (.call ⟨(.value (.func 31)), #[(.tmp 68), (.tmp 70), (.tmp 72)], #[22, 23, 23]⟩), 32, none⟩,
      ⟨some 66, (.move (.tmp 73)), 32, none⟩,
      ⟨some 74, (.extract (.tmp 66) 0), 23, none⟩,
      ⟨some 75, (.extract (.tmp 66) 1), 29, none⟩,
      ⟨some 11, (.assign (.tmp 74)), 23, none⟩,
      ⟨some 12, (.assign (.tmp 75)), 29, none⟩])
    (.seq (.reg [] [⟨some 77, (.fieldAddr 25 (.tmp 2) 0), 0, none⟩,
      ⟨some 78, (.load 22 (.tmp 77)), 22, none⟩,
      ⟨some 79, (.fieldAddr 25 (.tmp 2) 1), 0, none⟩,
      ⟨some 80, (.load 23 (.tmp 79)), 23, none⟩,
      ⟨some 81, (.move (.tmp 1)), 23, none⟩,
      ⟨some 82, (.call ⟨(.value (.func 31)), #[(.tmp 78), (.tmp 80), (.tmp 81)], #[22, 23, 23]⟩), 32, none⟩,
      ⟨some 76, (.move (.tmp 82)), 32, none⟩,
      ⟨some 83, (.extract (.tmp 76) 0), 23, none⟩,
      ⟨some 84, (.extract (.tmp 76) 1), 29, none⟩,
      ⟨some 13, (.assign (.tmp 83)), 23, none⟩,
      ⟨some 14, (.assign (.tmp 84)), 29, none⟩])
    (.seq (.reg [] [⟨some 85, (.move (.tmp 12)), 29, none⟩,
      ⟨some 86, (.binOp .eql 29 (.tmp 85) (.const (.int .i64 0)) 29), 4, none⟩,
      ⟨some 87, (.move (.tmp 86)), 4, none⟩,
      ⟨some 88, (.move (.tmp 14)), 29, some (87, true)⟩,
      ⟨some 89, (.binOp .eql 29 (.tmp 88) (.const (.int .i64 0)) 29), 4, some (87, true)⟩,
      ⟨some 90, (.pick (.tmp 87) (.tmp 89) (.const (.bool false))), 4, none⟩,
      ⟨some 91, (.move (.tmp 90)), 4, none⟩,
      ⟨some 92, (.move (.tmp 11)), 23, some (91, true)⟩,
      ⟨some 93, (.move (.tmp 13)), 23, some (91, true)⟩,
      ⟨some 94, (.call ⟨(.value (.func 33)), #[(.tmp 92), (.tmp 93)], #[23, 23]⟩), 4, some (91, true)⟩,
      ⟨some 95, (.pick (.tmp 91) (.tmp 94) (.const (.bool false))), 4, none⟩,
      ⟨some 96, (.move (.tmp 95)), 4, none⟩,
      ⟨some 97, (.call ⟨(.value (.func 28)), #[], #[]⟩), 4, some (96, true)⟩,
      ⟨some 98, (.pick (.tmp 96) (.tmp 97) (.const (.bool false))), 4, none⟩,
      ⟨some 4, (.assign (.tmp 98)), 4, none⟩])
    .ret)))))))))
theorem C9 {args : List AV} {r : AV} (hn : args.length ≤ 99) (h : vc Try.prog T [] A9 (Fin T [(.tmp 4)] r) ⟨envOf 0 args, []⟩) : CallP Try.prog 9 args r :=
  callP_of tok mixed Try.func9 (by kernel_rfl) (by kernel_rfl) (by kernel_rfl : Try.f9.ntmps = 99) (by kernel_rfl : Try.f9.body.bind (strip 99 (fun _ => [])) = some A9) hn h
def A11 : ACode :=
  (.seq (.reg [] [⟨some 2, (.box 25 (.tmp 0)), 0, none⟩,
      ⟨some 3, (.box 61 (.tmp 1)), 0, none⟩,
      ⟨some 4, (.assign (.const (.bool false))), 4, none⟩])
    (.seq (.seq (.reg [] [⟨some 14, (.load 25 (.tmp 2)), 25, none⟩,
      ⟨some 15, (.call ⟨(.value (.func 27)), #[(.tmp 14)], #[25]⟩), 4, none⟩])
    (.cond (.tmp 15)
    (.seq (.reg [] [⟨some 16, (.call ⟨(.value (.func 28)), #[], #[]⟩), 4, none⟩,
      ⟨some 4, (.assign (.tmp 16)), 4, none⟩])
    .ret)
    .skip))
    (.seq (.reg [] [⟨some 18, (.fieldAddr 25 (.tmp 2) 0), 0, none⟩,
      ⟨some 19, (.load 22 (.tmp 18)), 22, none⟩,
      ⟨some 20, (.fieldAddr 25 (.tmp 2) 2), 0, none⟩,
      ⟨some 21, (.load 23 (.tmp 20)), 23, none⟩,
      ⟨some 22, (.fieldAddr 25 (.tmp 2) 1), 0, none⟩,
      ⟨some 23, (.load 23 (.tmp 22)), 23, none⟩,
      ⟨some 24, (.fieldAddr 61 (.tmp 3) 0), 0, none⟩,
      ⟨some 25, (.load 3 (.tmp 24)), 3, none⟩,
      ⟨some 26, (.fieldAddr 61 (.tmp 3) 1), 0, none⟩,
      ⟨some 27, (.load 3 (.tmp 26)), 3, none⟩,
      ⟨some 28, (.call ⟨(.value (.func 54)), #[(.tmp 19), (.tmp 21), (.tmp 23), (.tmp 25), (.tmp 27)], #[22, 23, 23, 3, 3]⟩), 63, none⟩,
      ⟨some 17, (.move (.tmp 28)), 63, none⟩,
      ⟨some 29, (.extract (.tmp 17) 0), 62, none⟩,
      ⟨some 30, (.extract (.tmp 17) 1), 29, none⟩,
      ⟨some 5, (.assign (.tmp 29)), 62, none⟩,
      ⟨some 6, (.assign (.tmp 30)), 29, none⟩])
    (.seq (.reg [] [⟨some 32, (.fieldAddr 25 (.tmp 2) 0), 0, none⟩,
      ⟨some 33, (.load 22 (.tmp 32)), 22, none⟩,
      ⟨some 34, (.fieldAddr 25 (.tmp 2) 2), 0, none⟩,
      ⟨some 35, (.load 23 (.tmp 34)), 23, none⟩,
      ⟨some 36, (.fieldAddr 25 (.tmp 2) 1), 0, none⟩,
      ⟨some 37, (.load 23 (.tmp 36)), 23, none⟩,
      ⟨some 38, (.fieldAddr 61 (.tmp 3) 0), 0, none⟩,
      ⟨some 39, (.load 3 (.tmp 38)), 3, none⟩,
      ⟨some 40, (.fieldAddr 61 (.tmp 3) 1), 0, none⟩,
      ⟨some 41, (.load 3 (.tmp 40)), 3, none⟩,
      ⟨some 42, (.call ⟨(.value (.func 55)), #[(.tmp 33), (.tmp 35), (.tmp 37), (.tmp 39), (.tmp 41)], #[22, 23, 23, 3, 3]⟩), 63, none⟩,
      ⟨some 31, (.move (.tmp 42)), 63, none⟩,
      ⟨some 43, (.extract (.tmp 31) 0), 62, none⟩,
      ⟨some 44, (.extract (.tmp 31) 1), 29, none⟩,
      ⟨some 7, (.assign (.tmp 43)), 62, none⟩,
      ⟨some 8, (.assign (.tmp 44)), 29, none⟩])
    (.seq (.seq (.reg [] [⟨some 45, (.move (.tmp 5)), 62, none⟩,
      ⟨some 46, (.move (.tmp 7)), 62, none⟩,
      ⟨some 47, (.call ⟨(.value (.func 56)), #[(.tmp 45), (.tmp 46)], #[62, 62]⟩), 4, none⟩,
      ⟨some 48, (.unOp .not 4 (.tmp 47)), 4, none⟩,
      ⟨some 49, (.move (.tmp 48)), 4, none⟩,
      ⟨some 50, (.move (.tmp 6)), 29, some (49, false)⟩,
      ⟨some 51, (.move (.tmp 8)), 29, some (49, false)⟩,
      ⟨some 52, (.binOp .neq 29 (.tmp 50) (.tmp 51) 29), 4, some (49, false)⟩,
      ⟨some 53, (.pick (.tmp 49) (.const (.bool true)) (.tmp 52)), 4, none⟩])
    (.cond (.tmp 53)
    (.seq (.reg [] [⟨some 4, (.assign (.const (.bool false))), 4, none⟩])
    .ret)
    .skip))
    (.seq (.seq (.reg [] [⟨some 9, (.assign (.const (.int .i64 0))), 3, none⟩])
    (.block 0 (.loop (.seq (.seq (.reg [] [⟨some 54, (.move (.tmp 9)), 3, none⟩,
      ⟨some 55, (.move (.tmp 5)), 62, none⟩,
      ⟨some 56, (.call ⟨(.builtin .len), #[(.tmp 55)], #[62]⟩), 3, none⟩,
      ⟨some 57, (.binOp .lss 3 (.tmp 54) (.tmp 56) 3), 4, none⟩])
    (.cond (.tmp 57)
    .skip
    (.exit 0)))
    (.seq (.block 1 (.seq (.draw [] [⟨some 61, (.fieldAddr 25 (.tmp 2) 0), 0, none⟩,
      ⟨some 62, (.load 22 (.tmp 61)), 22, none⟩,
      ⟨some 63, (.move (.tmp 5)), 62, none⟩,
      ⟨some 64, (.move (.tmp 9)), 3, none⟩,
      ⟨some 65, (.indexAddr 62 (.tmp 63) (.tmp 64)), 0, none⟩,
      ⟨some 66, (.load 23 (.tmp 65)), 23, none⟩,
      ⟨some 67, (.fieldAddr 25 (.tmp 2) 2), 0, none⟩,
      ⟨some 68, (.load 23 (.tmp 67)), 23, none⟩,
      ⟨some 69, (.call ⟨(.value (.func 31)), #[(.tmp 62), (.tmp 66), (.tmp 68)], #[22, 23, 23]⟩), 32, none⟩,
      ⟨some 60, (.move (.tmp 69)), 32, none⟩,
      ⟨some 70, (.extract (.tmp 60) 0), 23, none⟩,
      ⟨some 71, (.extract (.tmp 60) 1), 29, none⟩,
      ⟨some 10, (.assign (.tmp 70)), 23, none⟩,
      ⟨some 11, (.assign (.tmp 71)), 29, none⟩] [(0, 2), (1, 2), (0, 3), (1, 3), (2, 3), (0, 4), (1, 4), (0, 5), (1, 5), (0, 6), (1, 6), (2, 6), (3, 6), (4, 6), (5, 6), (0, 7), (1, 7), (2, 7), (3, 7), (4, 7), (5, 7), (10, 11), (11, 12)])
    (.seq (.reg [] [⟨some 72, (.move (.tmp 11)), 29, none⟩,
      ⟨some 73, (.binOp .neq 29 (.tmp 72) (.const (.int .i64 0)) 29), 4, none⟩,
      ⟨some 74, (.move (.tmp 73)), 4, none⟩,
      ⟨some 75, (.move (.tmp 10)), 23, some (74, false)⟩,
      ⟨some 76, (.fieldAddr 25 (.tmp 2) 1), 0, some (74, false)⟩,
      ⟨some 77, (.load 23 (.tmp 76)), 23, some (74, false)⟩,
      ⟨some 78, (.call ⟨(.value (.func 33)), #[(.tmp 75), (.tmp 77)], #[23, 23]⟩), 4, some (74, false)⟩,
      ⟨some 79, (.unOp .not 4 (.tmp 78)), 4, some (74, false)⟩,
      ⟨some 80, (.pick (.tmp 74) (.const (.bool true)) (.tmp 79)), 4, none⟩])
    (.cond (.tmp 80)
    (.seq (.reg [] [⟨some 4, (.assign (.const (.bool false))), 4, none⟩])
    .ret)
    .skip))))
    (.reg [] [⟨some 58, (.move (.tmp 9)), 3, none⟩,
      ⟨some 59, (.binOp .add 3 (.tmp 58) (.const (.int .i64 1)) 3), 3, none⟩,
      ⟨some 9, (.assign (.tmp 59)), 3, none⟩]))))))
    (.seq (.seq (.reg [] [⟨some 81, (.move (.tmp 6)), 29, none⟩,
      ⟨some 82, (.binOp .neq 29 (.tmp 81) (.const (.int .i64 0)) 29), 4, none⟩])
    (.cond (.tmp 82)
    (.seq (.reg [] [⟨some 83, (.call ⟨(.value (.func 28)), #[], #[]⟩), 4, none⟩,
      ⟨some 4, (.assign (.tmp 83)), 4, none⟩])
    .ret)
    .skip))
    (.seq (.reg [] [⟨some 85, (.fieldAddr 25 (.tmp 2) 0), 0, none⟩,
      ⟨some 86, (.load 22 (.tmp 85)), 22, none⟩,
      ⟨some 87, (.fieldAddr 25 (.tmp 2) 1), 0, none⟩,
      ⟨some 88, (.load 23 (.tmp 87)), 23, none⟩,
      ⟨some 89, (.call ⟨(.value (.func 57)), #[(.tmp 86), (.tmp 88)], #[22, 23]⟩), 40, none⟩,
      ⟨some 84, (.move (.tmp 89)), 40, none⟩,
      ⟨some 90, (.extract (.tmp 84) 0), 4, none⟩,
      ⟨some 91, (.extract (.tmp 84) 1), 29, none⟩,
      ⟨some 12, (.assign (.tmp 90)), 4, none⟩,
      ⟨some 13, (.assign (.tmp 91)), 29, none⟩])
    (.seq (.reg [] [⟨some 92, (.move (.tmp 13)), 29, none⟩,
      ⟨some 93, (.binOp .eql 29 (.tmp 92) (.const (.int .i64 0)) 29), 4, none⟩,
      ⟨some 94, (.move (.tmp 93)), 4, none⟩,
      ⟨some 95, (.move (.tmp 12)), 4, some (94, true)⟩,
      ⟨some 96, (.move (.tmp 95)), 4, some (94, true)⟩,
      ⟨some 97, (.move (.tmp 5)), 62, some (96, false)⟩,
      ⟨some 98, (.call ⟨(.builtin .len), #[(.tmp 97)], #[62]⟩), 3, some (96, false)⟩,
      ⟨some 99, (.binOp .eql 3 (.tmp 98) (.const (.int .i64 0)) 3), 4, some (96, false)⟩,
      ⟨some 100, (.pick (.tmp 96) (.const (.bool true)) (.tmp 99)), 4, some (94, true)⟩,
      ⟨some 101, (.pick (.tmp 94) (.tmp 100) (.const (.bool false))), 4, none⟩,
      ⟨some 102, (.move (.tmp 101)), 4, none⟩,
      ⟨some 103, (.call ⟨(.value (.func 28)), #[], #[]⟩), 4, some (102, true)⟩,
      ⟨some 104, (.pick (.tmp 102) (.tmp 103) (.const (.bool false))), 4, none⟩,
      ⟨some 4, (.assign (.tmp 104)), 4, none⟩])
    .ret)))))))))
theorem C11 {args : List AV} {r : AV} (hn : args.length ≤ 105) (h : vc Try.prog T [] A11 (Fin T [(.tmp 4)] r) ⟨envOf 0 args, []⟩) : CallP Try.prog 11 args r :=
  callP_of tok mixed Try.func11 (by kernel_rfl) (by kernel_rfl) (by kernel_rfl : Try.f11.ntmps = 105) (by kernel_rfl : Try.f11.body.bind (strip 105 (fun _ => [])) = some A11) hn h
def A12 : ACode :=
  (.seq (.reg [] [⟨some 1, (.box 25 (.tmp 0)), 0, none⟩,
      ⟨some 2, (.assign (.const (.bool false))), 4, none⟩])
    (.seq (.seq (.reg [] [⟨some 11, (.load 25 (.tmp 1)), 25, none⟩,
      ⟨some 12, (.call ⟨(.value (.func 27)), #[(.tmp 11)], #[25]⟩), 4, none⟩])
    (.cond (.tmp 12)
    (.seq (.reg [] [⟨some 13, (.call ⟨(.value (.func 28)), #[], #[]⟩), 4, none⟩,
      ⟨some 2, (.assign (.tmp 13)), 4, none⟩])
    .ret)
    .skip))
    (.seq (.reg [] [⟨some 15, (.fieldAddr 25 (.tmp 1) 0), 0, none⟩,
      ⟨some 16, (.load 22 (.tmp 15)), 22, none⟩,
      ⟨some 17, (.call ⟨(.value (.func 58)), #[(.tmp 16)], #[22]⟩), 68, none⟩,
      ⟨some 14, (.move (.tmp 17)), 68, none⟩,
      ⟨some 18, (.extract (.tmp 14) 0), 23, none⟩,
      ⟨some 19, (.extract (.tmp 14) 1), 4, none⟩,
      ⟨some 20, (.extract (.tmp 14) 2), 29, none⟩,
      ⟨some 3, (.assign (.tmp 18)), 23, none⟩,
      ⟨some 4, (.assign (.tmp 19)), 4, none⟩,
      ⟨some 5, (.assign (.tmp 20)), 29, none⟩])
    (.seq (.seq (.reg [] [⟨some 21, (.move (.tmp 5)), 29, none⟩,
      ⟨some 22, (.binOp .neq 29 (.tmp 21) (.const (.int .i64 0)) 29), 4, none⟩,
      ⟨some 23, (.move (.tmp 22)), 4, none⟩,
      ⟨some 24, (.move (.tmp 4)), 4, some (23, false)⟩,
      ⟨some 25, (.unOp .not 4 (.tmp 24)), 4, some (23, false)⟩,
      ⟨some 26, (.pick (.tmp 23) (.const (.bool true)) (.tmp 25)), 4, none⟩])
    (.cond (.tmp 26)
    (.seq (.reg [] [⟨some 27, (.call ⟨(.value (.func 28)), #[], #[]⟩), 4, none⟩,
      ⟨some 2, (.assign (.tmp 27)), 4, none⟩])
    .ret)
    .skip))
    (.seq (.reg [] [⟨some 29, (.move (.tmp 3)), 23, none⟩,
      ⟨some 30, (.fieldAddr 25 (.tmp 1) 1), 0, none⟩,
      ⟨some 31, (.load 23 (.tmp 30)), 23, none⟩,
      ⟨some 32, (.call ⟨(.value (.func 59)), #[(.tmp 29), (.tmp 31)], #[23, 23]⟩), 42, none⟩,
      ⟨some 28, (.move (.tmp 32)), 42, none⟩,
      ⟨some 33, (.extract (.tmp 28) 0), 3, none⟩,
      ⟨some 34, (.extract (.tmp 28) 1), 29, none⟩,
      ⟨some 6, (.assign (.tmp 33)), 3, none⟩,
      ⟨some 7, (.assign (.tmp 34)), 29, none⟩])
    (.seq (.reg [] [⟨some 36, (.fieldAddr 25 (.tmp 1) 0), 0, none⟩,
      ⟨some 37, (.load 22 (.tmp 36)), 22, none⟩,
      ⟨some 38, (.fieldAddr 25 (.tmp 1) 1), 0, none⟩,
      ⟨some 39, (.load 23 (.tmp 38)), 23, none⟩,
      ⟨some 40, (.fieldAddr 25 (.tmp 1) 2), 0, none⟩,
      ⟨some 41, (.load 23 (.tmp 40)), 23, none⟩,
      ⟨some 42, (.call ⟨(.value (.func 29)), #[(.tmp 37), (.tmp 39), (.tmp 41)], #[22, 23, 23]⟩), 30, none⟩,
      ⟨some 35, (.move (.tmp 42)), 30, none⟩,
      ⟨some 43, (.extract (.tmp 35) 0), 28, none⟩,
      ⟨some 44, (.extract (.tmp 35) 1), 23, none⟩,
      ⟨some 45, (.extract (.tmp 35) 2), 29, none⟩,
      ⟨some 8, (.assign (.tmp 43)), 28, none⟩,
      ⟨some 9, (.assign (.tmp 44)), 23, none⟩,
      ⟨some 10, (.assign (.tmp 45)), 29, none⟩])
    (.seq (.seq (.reg [] [⟨some 46, (.move (.tmp 7)), 29, none⟩,
      ⟨some 47, (.binOp .neq 29 (.tmp 46) (.const (.int .i64 0)) 29), 4, none⟩])
    (.cond (.tmp 47)
    (.seq (.reg [] [⟨some 48, (.move (.tmp 10)), 29, none⟩,
      ⟨some 49, (.move (.tmp 7)), 29, none⟩,
      ⟨some 50, (.binOp .eql 29 (.tmp 48) (.tmp 49) 29), 4, none⟩,
      ⟨some 51, (.move (.tmp 50)), 4, none⟩,
      ⟨some 52, (.call ⟨(.value (.func 28)), #[], #[]⟩), 4, some (51, true)⟩,
      ⟨some 53, (.pick (.tmp 51) (.tmp 52) (.const (.bool false))), 4, none⟩,
      ⟨some 2, (.assign (.tmp 53)), 4, none⟩])
    .ret)
    .skip))
    (.seq (.seq (.reg [] [⟨some 54, (.move (.tmp 10)), 29, none⟩,
      ⟨some 55, (.binOp .neq 29 (.tmp 54) (.const (.int .i64 0)) 29), 4, none⟩])
    (.cond (.tmp 55)
    (.seq (.reg [] [⟨some 56, (.move (.tmp 10)), 29, none⟩,
      ⟨some 57, (.binOp .neq 29 (.tmp 56) (.const (.int .i64 3)) 29), 4, none⟩,
      ⟨some 58, (.move (.tmp 57)), 4, none⟩,
      ⟨some 59, (.fieldAddr 25 (.tmp 1) 2), 0, some (58, false)⟩,
      ⟨some 60, (.load 23 (.tmp 59)), 23, some (58, false)⟩,
      ⟨some 61, (.call ⟨(.builtin .len), #[(.tmp 60)], #[23]⟩), 3, some (58, false)⟩,
      ⟨some 62, (.binOp .gtr 3 (.tmp 61) (.const (.int .i64 4)) 3), 4, some (58, false)⟩,
      ⟨some 63, (.pick (.tmp 58) (.const (.bool true)) (.tmp 62)), 4, none⟩,
      ⟨some 64, (.move (.tmp 63)), 4, none⟩,
      ⟨some 65, (.move (.tmp 6)), 3, some (64, false)⟩,
      ⟨some 66, (.binOp .gtr 3 (.tmp 65) (.const (.int .i64 60)) 3), 4, some (64, false)⟩,
      ⟨some 67, (.pick (.tmp 64) (.const (.bool true)) (.tmp 66)), 4, none⟩,
      ⟨some 68, (.move (.tmp 67)), 4, none⟩,
      ⟨some 69, (.call ⟨(.value (.func 28)), #[], #[]⟩), 4, some (68, true)⟩,
      ⟨some 70, (.pick (.tmp 68) (.tmp 69) (.const (.bool false))), 4, none⟩,
      ⟨some 2, (.assign (.tmp 70)), 4, none⟩])
    .ret)
    .skip))
    (.seq (.reg [] [⟨some 71, (.move (.tmp 8)), 28, none⟩,
      ⟨some 72, (.call ⟨(.builtin .len), #[(.tmp 71)], #[28]⟩), 3, none⟩,
      ⟨some 73, (.move (.tmp 6)), 3, none⟩,
      ⟨some 74, (.binOp .leq 3 (.tmp 72) (.tmp 73) 3), 4, none⟩,
      ⟨some 75, (.move (.tmp 74)), 4, none⟩,
      ⟨some 76, (.call ⟨(.value (.func 28)), #[], #[]⟩), 4, some (75, true)⟩,
      ⟨some 77, (.pick (.tmp 75) (.tmp 76) (.const (.bool false))), 4, none⟩,
      ⟨some 2, (.assign (.tmp 77)), 4, none⟩])
    .ret)))))))))
theorem C12 {args : List AV} {r : AV} (hn : args.length ≤ 78) (h : vc Try.prog T [] A12 (Fin T [(.tmp 2)] r) ⟨envOf 0 args, []⟩) : CallP Try.prog 12 args r :=
  callP_of tok mixed Try.func12 (by kernel_rfl) (by kernel_rfl) (by kernel_rfl : Try.f12.ntmps = 78) (by kernel_rfl : Try.f12.body.bind (strip 78 (fun _ => [])) = some A12) hn h
def A54 : ACode :=
  (.seq (.reg [] [⟨some 10, (.assign (.const (.slice none 0 0))), 62, none⟩,
      ⟨some 11, (.assign (.const (.int .i64 0))), 29, none⟩])
    (.seq (.seq (.reg [] [⟨some 19, (.move (.tmp 0)), 22, none⟩,
      ⟨some 20, (.call ⟨(.value (.func 83)), #[(.tmp 19)], #[22]⟩), 29, none⟩,
      ⟨some 21, (.move (.tmp 1)), 23, none⟩,
      ⟨some 22, (.call ⟨(.value (.func 52)), #[(.tmp 21)], #[23]⟩), 29, none⟩,
      ⟨some 23, (.move (.tmp 2)), 23, none⟩,
      ⟨some 24, (.call ⟨(.value (.func 135)), #[(.tmp 23)], #[23]⟩), 29, none⟩,
      ⟨some 25, (.buildSlice 198 3 #[(0, (.tmp 20)), (1, (.tmp 22)), (2, (.tmp 24))]), 198, none⟩,
      ⟨some 26, (.call ⟨(.value (.func 127)), #[(.tmp 25)], #[198]⟩), 29, none⟩,
      ⟨some 12, (.assign (.tmp 26)), 29, none⟩])
    (.seq (.reg [] [⟨some 27, (.move (.tmp 12)), 29, none⟩,
      ⟨some 28, (.binOp .neq 29 (.tmp 27) (.const (.int .i64 0)) 29), 4, none⟩])
    (.cond (.tmp 28)
    (.seq (.reg [] [⟨some 29, (.move (.tmp 12)), 29, none⟩,
      ⟨some 10, (.assign (.const (.slice none 0 0))), 62, none⟩,
      ⟨some 11, (.assign (.tmp 29)), 29, none⟩])
    .ret)
    .skip)))
    (.seq (.seq (.reg [] [⟨some 30, (.move (.tmp 3)), 3, none⟩,
      ⟨some 31, (.binOp .lss 3 (.tmp 30) (.const (.int .i64 1)) 3), 4, none⟩,
      ⟨some 32, (.move (.tmp 31)), 4, none⟩,
      ⟨some 33, (.move (.tmp 3)), 3, some (32, false)⟩,
      ⟨some 34, (.binOp .gtr 3 (.tmp 33) (.const (.int .i64 3)) 3), 4, some (32, false)⟩,
      ⟨some 35, (.pick (.tmp 32) (.const (.bool true)) (.tmp 34)), 4, none⟩,
      ⟨some 36, (.move (.tmp 35)), 4, none⟩,
      ⟨some 37, (.move (.tmp 4)), 3, some (36, false)⟩,
      ⟨some 38, (.binOp .lss 3 (.tmp 37) (.const (.int .i64 0)) 3), 4, some (36, false)⟩,
      ⟨some 39, (.pick (.tmp 36) (.const (.bool true)) (.tmp 38)), 4, none⟩,
      ⟨some 40, (.move (.tmp 39)), 4, none⟩,
      ⟨some 41, (.move (.tmp 4)), 3, some (40, false)⟩,
      ⟨some 42, (.binOp .gtr 3 (.tmp 41) (.const (.int .i64 4)) 3), 4, some (40, false)⟩,
      ⟨some 43, (.pick (.tmp 40) (.const (.bool true)) (.tmp 42)), 4, none⟩])
    (.cond (.tmp 43)
    (.seq (.reg [] [⟨some 10, (.assign (.const (.slice none 0 0))), 62, none⟩,
      ⟨some 11, (.assign (.const (.int .i64 1))), 29, none⟩])
    .ret)
    .skip))
    (.seq (.reg [] [⟨some 13, (.assign (.const (.slice none 0 0))), 62, none⟩])
    (.seq (.seq (.reg [] [⟨some 44, (.move (.tmp 3)), 3, none⟩,
      ⟨some 45, (.move (.tmp 4)), 3, none⟩,
      ⟨some 46, (.call ⟨(.value (.func 136)), #[(.const (.slice none 0 0)), (.tmp 44), (.tmp 45)], #[23, 3, 3]⟩), 62, none⟩,
      ⟨some 47, (.call ⟨(.builtin .len), #[(.tmp 46)], #[62]⟩), 3, none⟩,
      ⟨some 48, (.move (.const (.int .i64 0))), 3, none⟩])
    (.block 0 (.loop (.seq (.reg [] [⟨some 49, (.binOp .lss 3 (.tmp 48) (.tmp 47) 3), 0, none⟩])
    (.seq (.cond (.tmp 49)
    .skip
    (.exit 0))
    (.seq (.block 1 (.seq (.reg [] [⟨some 50, (.indexAddr 62 (.tmp 46) (.tmp 48)), 0, none⟩,
      ⟨some 51, (.load 23 (.tmp 50)), 23, none⟩,
      ⟨some 15, (.assign (.tmp 51)), 23, none⟩])
    (.seq (.reg [] [⟨some 53, (.move (.tmp 0)), 22, none⟩,
      ⟨some 54, (.move (.tmp 15)), 23, none⟩,
      ⟨some 55, (.move (.tmp 1)), 23, none⟩,
      ⟨some 56, (.call ⟨(.value (.func 108)), #[(.tmp 53), (.tmp 54), (.tmp 55)], #[22, 23, 23]⟩), 30, none⟩,
      ⟨some 52, (.move (.tmp 56)), 30, none⟩,
      ⟨some 57, (.extract (.tmp 52) 0), 28, none⟩,
      ⟨some 58, (.extract (.tmp 52) 1), 23, none⟩,
      ⟨some 59, (.extract (.tmp 52) 2), 29, none⟩,
      ⟨some 16, (.assign (.tmp 57)), 28, none⟩,
      ⟨some 17, (.assign (.tmp 58)), 23, none⟩,
      ⟨some 18, (.assign (.tmp 59)), 29, none⟩])
    (.seq (.reg [] [⟨some 60, (.move (.tmp 18)), 29, none⟩,
      ⟨some 61, (.binOp .eql 29 (.tmp 60) (.const (.int .i64 0)) 29), 4, none⟩,
      ⟨some 62, (.move (.tmp 61)), 4, none⟩,
      ⟨some 63, (.move (.tmp 17)), 23, some (62, true)⟩,
      ⟨some 64, (.move (.tmp 2)), 23, some (62, true)⟩,
      ⟨some 65, (.call ⟨(.value (.func 137)), #[(.tmp 63), (.tmp 64)], #[23, 23]⟩), 4, some (62, true)⟩,
      ⟨some 66, (.pick (.tmp 62) (.tmp 65) (.const (.bool false))), 4, none⟩])
    (.cond (.tmp 66)
    (.reg [] [⟨some 67, (.move (.tmp 13)), 62, none⟩,
      ⟨some 68, (.move (.tmp 15)), 23, none⟩,
      ⟨some 69, (.buildSlice 62 1 #[(0, (.tmp 68))]), 62, none⟩,
      ⟨some 70, (.call ⟨(.builtin .append), #[(.tmp 67), (.tmp 69)], #[62, 62]⟩), 62, none⟩,
      ⟨some 13, (.assign (.tmp 70)), 62, none⟩])
    .skip)))))
    (.reg [] [⟨some 71, (.binOp .add 3 (.tmp 48) (.const (.int .i64 1)) 3), 3, none⟩,
      ⟨some 48, (.move (.tmp 71)), 3, none⟩])))))))
    (.seq (.reg [] [⟨some 72, (.move (.tmp 13)), 62, none⟩,
      ⟨some 10, (.assign (.tmp 72)), 62, none⟩,
      ⟨some 11, (.assign (.const (.int .i64 0))), 29, none⟩])
    .ret))))))
theorem C54 {args : List AV} {r : AV} (hn : args.length ≤ 73) (h : vc Try.prog T [] A54 (Fin T [(.tmp 10), (.tmp 11)] r) ⟨envOf 0 args, []⟩) : CallP Try.prog 54 args r :=
  callP_of tok mixed Try.func54 (by kernel_rfl) (by kernel_rfl) (by kernel_rfl : Try.f54.ntmps = 73) (by kernel_rfl : Try.f54.body.bind (strip 73 (fun _ => [])) = some A54) hn h
def A55 : ACode :=
  (.seq (.reg [] [⟨some 10, (.assign (.const (.slice none 0 0))), 62, none⟩,
      ⟨some 11, (.assign (.const (.int .i64 0))), 29, none⟩])
    (.seq (.reg [] [⟨some 20, (.move (.tmp 0)), 22, none⟩,
      ⟨some 21, (.call ⟨(.value (.func 84)), #[(.tmp 20)], #[22]⟩), 29, none⟩,
      ⟨some 12, (.assign (.tmp 21)), 29, none⟩])
    (.seq (.seq (.reg [] [⟨some 22, (.move (.tmp 12)), 29, none⟩,
      ⟨some 23, (.binOp .neq 29 (.tmp 22) (.const (.int .i64 0)) 29), 4, none⟩])
    (.cond (.tmp 23)
    (.seq (.reg [] [⟨some 24, (.move (.tmp 12)), 29, none⟩,
      ⟨some 10, (.assign (.const (.slice none 0 0))), 62, none⟩,
      ⟨some 11, (.assign (.tmp 24)), 29, none⟩])
    .ret)
    .skip))
    (.seq (.reg [] [⟨some 25, (.move (.tmp 1)), 23, none⟩,
      ⟨some 26, (.call ⟨(.value (.func 53)), #[(.tmp 25)], #[23]⟩), 29, none⟩,
      ⟨some 12, (.assign (.tmp 26)), 29, none⟩])
    (.seq (.seq (.reg [] [⟨some 27, (.move (.tmp 12)), 29, none⟩,
      ⟨some 28, (.binOp .neq 29 (.tmp 27) (.const (.int .i64 0)) 29), 4, none⟩])
    (.cond (.tmp 28)
    (.seq (.reg [] [⟨some 29, (.move (.tmp 12)), 29, none⟩,
      ⟨some 10, (.assign (.const (.slice none 0 0))), 62, none⟩,
      ⟨some 11, (.assign (.tmp 29)), 29, none⟩])
    .ret)
    .skip))
    (.seq (.reg [] [⟨some 30, (.move (.tmp 2)), 23, none⟩,
      ⟨some 31, (.call ⟨(.value (.func 138)), #[(.tmp 30)], #[23]⟩), 29, none⟩,
      ⟨some 12, (.assign (.tmp 31)), 29, none⟩])
    (.seq (.seq (.reg [] [⟨some 32, (.move (.tmp 12)), 29, none⟩,
      ⟨some 33, (.binOp .neq 29 (.tmp 32) (.const (.int .i64 0)) 29), 4, none⟩])
    (.cond (.tmp 33)
    (.seq (.reg [] [⟨some 34, (.move (.tmp 12)), 29, none⟩,
      ⟨some 10, (.assign (.const (.slice none 0 0))), 62, none⟩,
      ⟨some 11, (.assign (.tmp 34)), 29, none⟩])
    .ret)
    .skip))
    (.seq (.seq (.reg [] [⟨some 35, (.move (.tmp 3)), 3, none⟩,
      ⟨some 36, (.binOp .lss 3 (.tmp 35) (.const (.int .i64 1)) 3), 4, none⟩,
      ⟨some 37, (.move (.tmp 36)), 4, none⟩,
      ⟨some 38, (.move (.tmp 3)), 3, some (37, false)⟩,
      ⟨some 39, (.binOp .gtr 3 (.tmp 38) (.const (.int .i64 3)) 3), 4, some (37, false)⟩,
      ⟨some 40, (.pick (.tmp 37) (.const (.bool true)) (.tmp 39)), 4, none⟩,
      ⟨some 41, (.move (.tmp 40)), 4, none⟩,
      ⟨some 42, (.move (.tmp 4)), 3, some (41, false)⟩,
      ⟨some 43, (.binOp .lss 3 (.tmp 42) (.const (.int .i64 0)) 3), 4, some (41, false)⟩,
      ⟨some 44, (.pick (.tmp 41) (.const (.bool true)) (.tmp 43)), 4, none⟩,
      ⟨some 45, (.move (.tmp 44)), 4, none⟩,
      ⟨some 46, (.move (.tmp 4)), 3, some (45, false)⟩,
      ⟨some 47, (.binOp .gtr 3 (.tmp 46) (.const (.int .i64 4)) 3), 4, some (45, false)⟩,
      ⟨some 48, (.pick (.tmp 45) (.const (.bool true)) (.tmp 47)), 4, none⟩])
    (.cond (.tmp 48)
    (.seq (.reg [] [⟨some 10, (.assign (.const (.slice none 0 0))), 62, none⟩,
      ⟨some 11, (.assign (.const (.int .i64 1))), 29, none⟩])
    .ret)
    .skip))
    (.seq (.reg [] [⟨some 13, (.assign (.const (.slice none 0 0))), 62, none⟩])
    (.seq (.reg [] [⟨some 49, (.buildSlice 62 1 #[(0, (.const (.slice none 0 0)))]), 62, none⟩,
      ⟨some 14, (.assign (.tmp 49)), 62, none⟩])
    (.seq (.seq (.reg [13] [⟨some 15, (.assign (.const (.int .i64 0))), 3, none⟩])
    (.block 0 (.loop (.seq (.seq (.reg [] [⟨some 50, (.move (.tmp 15)), 3, none⟩,
      ⟨some 51, (.move (.tmp 14)), 62, none⟩,
      ⟨some 52, (.call ⟨(.builtin .len), #[(.tmp 51)], #[62]⟩), 3, none⟩,
      ⟨some 53, (.binOp .lss 3 (.tmp 50) (.tmp 52) 3), 4, none⟩])
    (.cond (.tmp 53)
    .skip
    (.exit 0)))
    (.seq (.block 1 (.seq (.reg [] [⟨some 57, (.move (.tmp 0)), 22, none⟩,
      ⟨some 58, (.move (.tmp 14)), 62, none⟩,
      ⟨some 59, (.move (.tmp 15)), 3, none⟩,
      ⟨some 60, (.indexAddr 62 (.tmp 58) (.tmp 59)), 0, none⟩,
      ⟨some 61, (.load 23 (.tmp 60)), 23, none⟩,
      ⟨some 62, (.move (.tmp 1)), 23, none⟩,
      ⟨some 63, (.call ⟨(.value (.func 110)), #[(.tmp 57), (.tmp 61), (.tmp 62)], #[22, 23, 23]⟩), 113, none⟩,
      ⟨some 56, (.move (.tmp 63)), 113, none⟩,
      ⟨some 64, (.extract (.tmp 56) 0), 28, none⟩,
      ⟨some 65, (.extract (.tmp 56) 1), 23, none⟩,
      ⟨some 66, (.extract (.tmp 56) 2), 4, none⟩,
      ⟨some 16, (.assign (.tmp 64)), 28, none⟩,
      ⟨some 17, (.assign (.tmp 65)), 23, none⟩,
      ⟨some 18, (.assign (.tmp 66)), 4, none⟩])
    (.seq (.seq (.reg [] [⟨some 67, (.move (.tmp 18)), 4, none⟩,
      ⟨some 68, (.move (.tmp 67)), 4, none⟩,
      ⟨some 69, (.move (.tmp 17)), 23, some (68, true)⟩,
      ⟨some 70, (.move (.tmp 2)), 23, some (68, true)⟩,
      ⟨some 71, (.call ⟨(.value (.func 33)), #[(.tmp 69), (.tmp 70)], #[23, 23]⟩), 4, some (68, true)⟩,
      ⟨some 72, (.pick (.tmp 68) (.tmp 71) (.const (.bool false))), 4, none⟩])
    (.cond (.tmp 72)
    (.reg [] [⟨some 73, (.move (.tmp 13)), 62, none⟩,
      ⟨some 74, (.move (.tmp 14)), 62, none⟩,
      ⟨some 75, (.move (.tmp 15)), 3, none⟩,
      ⟨some 76, (.indexAddr 62 (.tmp 74) (.tmp 75)), 0, none⟩,
      ⟨some 77, (.load 23 (.tmp 76)), 23, none⟩,
      ⟨some 78, (.call ⟨(.value (.func 139)), #[(.tmp 73), (.tmp 77)], #[62, 23]⟩), 62, none⟩,
      ⟨some 13, (.assign (.tmp 78)), 62, none⟩])
    .skip))
    (.seq (.reg [] [⟨some 19, (.assign (.const (.int .i64 0))), 3, none⟩])
    (.block 2 (.loop (.seq (.seq (.reg [] [⟨some 79, (.move (.tmp 19)), 3, none⟩,
      ⟨some 80, (.move (.tmp 3)), 3, none⟩,
      ⟨some 81, (.binOp .lss 3 (.tmp 79) (.tmp 80) 3), 4, none⟩,
      ⟨some 82, (.move (.tmp 81)), 4, none⟩,
      ⟨some 83, (.move (.tmp 14)), 62, some (82, true)⟩,
      ⟨some 84, (.move (.tmp 15)), 3, some (82, true)⟩,
      ⟨some 85, (.indexAddr 62 (.tmp 83) (.tmp 84)), 0, some (82, true)⟩,
      ⟨some 86, (.load 23 (.tmp 85)), 23, some (82, true)⟩,
      ⟨some 87, (.call ⟨(.builtin .len), #[(.tmp 86)], #[23]⟩), 3, some (82, true)⟩,
      ⟨some 88, (.move (.tmp 4)), 3, some (82, true)⟩,
      ⟨some 89, (.binOp .lss 3 (.tmp 87) (.tmp 88) 3), 4, some (82, true)⟩,
      ⟨some 90, (.pick (.tmp 82) (.tmp 89) (.const (.bool false))), 4, none⟩])
    (.cond (.tmp 90)
    .skip
    (.exit 2)))
    (.seq (.block 3 (.reg [] [⟨some 93, (.move (.tmp 14)), 62, none⟩,
      ⟨some 94, (.buildSlice 23 0 #[]), 23, none⟩,
      ⟨some 95, (.move (.tmp 14)), 62, none⟩,
      ⟨some 96, (.move (.tmp 15)), 3, none⟩,
      ⟨some 97, (.indexAddr 62 (.tmp 95) (.tmp 96)), 0, none⟩,
      ⟨some 98, (.load 23 (.tmp 97)), 23, none⟩,
      ⟨some 99, (.call ⟨(.builtin .append), #[(.tmp 94), (.tmp 98)], #[23, 23]⟩), 23, none⟩,
      ⟨some 100, (.move (.tmp 19)), 3, none⟩,
      ⟨some 101, (.buildSlice 23 1 #[(0, (.tmp 100))]), 23, none⟩,
      ⟨some 102, (.call ⟨(.builtin .append), #[(.tmp 99), (.tmp 101)], #[23, 23]⟩), 23, none⟩,
      ⟨some 103, (.buildSlice 62 1 #[(0, (.tmp 102))]), 62, none⟩,
      ⟨some 104, (.call ⟨(.builtin .append), #[(.tmp 93), (.tmp 103)], #[62, 62]⟩), 62, none⟩,
      ⟨some 14, (.assign (.tmp 104)), 62, none⟩]))
    (.reg [] [⟨some 91, (.move (.tmp 19)), 3, none⟩,
      ⟨some 92, (.binOp .add 3 (.tmp 91) (.const (.int .i64 1)) 3), 3, none⟩,
      ⟨some 19, (.assign (.tmp 92)), 3, none⟩])))))))))
    (.reg [] [⟨some 54, (.move (.tmp 15)), 3, none⟩,
      ⟨some 55, (.binOp .add 3 (.tmp 54) (.const (.int .i64 1)) 3), 3, none⟩,
      ⟨some 15, (.assign (.tmp 55)), 3, none⟩]))))))
    (.seq (.reg [] [⟨some 105, (.move (.tmp 13)), 62, none⟩,
      ⟨some 10, (.assign (.tmp 105)), 62, none⟩,
      ⟨some 11, (.assign (.const (.int .i64 0))), 29, none⟩])
    .ret))))))))))))
theorem C55 {args : List AV} {r : AV} (hn : args.length ≤ 106) (h : vc Try.prog T [] A55 (Fin T [(.tmp 10), (.tmp 11)] r) ⟨envOf 0 args, []⟩) : CallP Try.prog 55 args r :=
  callP_of tok mixed Try.func55 (by kernel_rfl) (by kernel_rfl) (by kernel_rfl : Try.f55.ntmps = 106) (by kernel_rfl : Try.f55.body.bind (strip 106 (fun id => if id = 14 then [13] else [])) = some A55) hn h
def A56 : ACode :=
  (.seq (.reg [] [⟨some 4, (.assign (.const (.bool false))), 4, none⟩])
    (.seq (.seq (.reg [] [⟨some 6, (.move (.tmp 0)), 62, none⟩,
      ⟨some 7, (.call ⟨(.builtin .len), #[(.tmp 6)], #[62]⟩), 3, none⟩,
      ⟨some 8, (.move (.tmp 1)), 62, none⟩,
      ⟨some 9, (.call ⟨(.builtin .len), #[(.tmp 8)], #[62]⟩), 3, none⟩,
      ⟨some 10, (.binOp .neq 3 (.tmp 7) (.tmp 9) 3), 4, none⟩])
    (.cond (.tmp 10)
    (.seq (.reg [] [⟨some 4, (.assign (.const (.bool false))), 4, none⟩])
    .ret)
    .skip))
    (.seq (.seq (.reg [] [⟨some 5, (.assign (.const (.int .i64 0))), 3, none⟩])
    (.block 0 (.loop (.seq (.seq (.reg [] [⟨some 11, (.move (.tmp 5)), 3, none⟩,
      ⟨some 12, (.move (.tmp 0)), 62, none⟩,
      ⟨some 13, (.call ⟨(.builtin .len), #[(.tmp 12)], #[62]⟩), 3, none⟩,
      ⟨some 14, (.binOp .lss 3 (.tmp 11) (.tmp 13) 3), 4, none⟩])
    (.cond (.tmp 14)
    .skip
    (.exit 0)))
    (.seq (.block 1 (.seq (.draw [] [⟨some 17, (.move (.tmp 0)), 62, none⟩,
      ⟨some 18, (.move (.tmp 5)), 3, none⟩,
      ⟨some 19, (.indexAddr 62 (.tmp 17) (.tmp 18)), 0, none⟩,
      ⟨some 20, (.load 23 (.tmp 19)), 23, none⟩,
      ⟨some 21, (.move (.tmp 1)), 62, none⟩,
      ⟨some 22, (.move (.tmp 5)), 3, none⟩,
      ⟨some 23, (.indexAddr 62 (.tmp 21) (.tmp 22)), 0, none⟩,
      ⟨some 24, (.load 23 (.tmp 23)), 23, none⟩,
      ⟨some 25, (.call ⟨(.value (.func 33)), #[(.tmp 20), (.tmp 24)], #[23, 23]⟩), 4, none⟩,
      ⟨some 26, (.unOp .not 4 (.tmp 25)), 4, none⟩] [(0, 1), (0, 4), (1, 4), (2, 4), (3, 4), (0, 5), (1, 5), (2, 5), (3, 5), (4, 5), (0, 6), (1, 6), (2, 6), (3, 6), (0, 7), (1, 7), (2, 7), (3, 7)])
    (.cond (.tmp 26)
    (.seq (.reg [] [⟨some 4, (.assign (.const (.bool false))), 4, none⟩])
    .ret)
    .skip)))
    (.reg [] [⟨some 15, (.move (.tmp 5)), 3, none⟩,
      ⟨some 16, (.binOp .add 3 (.tmp 15) (.const (.int .i64 1)) 3), 3, none⟩,
      ⟨some 5, (.assign (.tmp 16)), 3, none⟩]))))))
    (.seq (.reg [] [⟨some 4, (.assign (.const (.bool true))), 4, none⟩])
    .ret))))
theorem C56 {args : List AV} {r : AV} (hn : args.length ≤ 27) (h : vc Try.prog T [] A56 (Fin T [(.tmp 4)] r) ⟨envOf 0 args, []⟩) : CallP Try.prog 56 args r :=
  callP_of tok mixed Try.func56 (by kernel_rfl) (by kernel_rfl) (by kernel_rfl : Try.f56.ntmps = 27) (by kernel_rfl : Try.f56.body.bind (strip 27 (fun _ => [])) = some A56) hn h
def A57 : ACode :=
  (.seq (.reg [] [⟨some 4, (.assign (.const (.bool false))), 4, none⟩,
      ⟨some 5, (.assign (.const (.int .i64 0))), 29, none⟩])
    (.seq (.seq (.reg [] [⟨some 7, (.move (.tmp 0)), 22, none⟩,
      ⟨some 8, (.move (.tmp 1)), 23, none⟩,
      ⟨some 9, (.buildSlice 62 1 #[(0, (.tmp 8))]), 62, none⟩,
      ⟨some 10, (.call ⟨(.value (.func 140)), #[(.tmp 7), (.tmp 9)], #[22, 62]⟩), 29, none⟩,
      ⟨some 6, (.assign (.tmp 10)), 29, none⟩])
    (.seq (.reg [] [⟨some 11, (.move (.tmp 6)), 29, none⟩,
      ⟨some 12, (.binOp .neq 29 (.tmp 11) (.const (.int .i64 0)) 29), 4, none⟩])
    (.cond (.tmp 12)
    (.seq (.reg [] [⟨some 13, (.move (.tmp 6)), 29, none⟩,
      ⟨some 4, (.assign (.const (.bool false))), 4, none⟩,
      ⟨some 5, (.assign (.tmp 13)), 29, none⟩])
    .ret)
    .skip)))
    (.seq (.reg [] [⟨some 14, (.move (.tmp 0)), 22, none⟩,
      ⟨some 15, (.move (.tmp 1)), 23, none⟩,
      ⟨some 16, (.call ⟨(.value (.func 141)), #[(.tmp 14), (.tmp 15)], #[22, 23]⟩), 143, none⟩,
      ⟨some 17, (.call ⟨(.builtin .len), #[(.tmp 16)], #[143]⟩), 3, none⟩,
      ⟨some 18, (.binOp .eql 3 (.tmp 17) (.const (.int .i64 0)) 3), 4, none⟩,
      ⟨some 4, (.assign (.tmp 18)), 4, none⟩,
      ⟨some 5, (.assign (.const (.int .i64 0))), 29, none⟩])
    .ret)))
theorem C57 {args : List AV} {r : AV} (hn : args.length ≤ 19) (h : vc Try.prog T [] A57 (Fin T [(.tmp 4), (.tmp 5)] r) ⟨envOf 0 args, []⟩) : CallP Try.prog 57 args r :=
  callP_of tok mixed Try.func57 (by kernel_rfl) (by kernel_rfl) (by kernel_rfl : Try.f57.ntmps = 19) (by kernel_rfl : Try.f57.body.bind (strip 19 (fun _ => [])) = some A57) hn h
def A58 : ACode :=
  (.seq (.reg [] [⟨some 2, (.assign (.const (.slice none 0 0))), 23, none⟩,
      ⟨some 3, (.assign (.const (.bool false))), 4, none⟩,
      ⟨some 4, (.assign (.const (.int .i64 0))), 29, none⟩])
    (.seq (.seq (.reg [] [⟨some 12, (.move (.tmp 0)), 22, none⟩,
      ⟨some 13, (.call ⟨(.value (.func 83)), #[(.tmp 12)], #[22]⟩), 29, none⟩,
      ⟨some 5, (.assign (.tmp 13)), 29, none⟩])
    (.seq (.reg [] [⟨some 14, (.move (.tmp 5)), 29, none⟩,
      ⟨some 15, (.binOp .neq 29 (.tmp 14) (.const (.int .i64 0)) 29), 4, none⟩])
    (.cond (.tmp 15)
    (.seq (.reg [] [⟨some 16, (.move (.tmp 5)), 29, none⟩,
      ⟨some 2, (.assign (.const (.slice none 0 0))), 23, none⟩,
      ⟨some 3, (.assign (.const (.bool false))), 4, none⟩,
      ⟨some 4, (.assign (.tmp 16)), 29, none⟩])
    .ret)
    .skip)))
    (.seq (.reg [] [⟨some 17, (.makeSlice 23 (.const (.int .i64 6)) (.const (.int .i64 6))), 23, none⟩,
      ⟨some 6, (.assign (.tmp 17)), 23, none⟩])
    (.seq (.seq (.reg [] [⟨some 18, (.move (.const (.int .i64 0))), 3, none⟩])
    (.block 0 (.loop (.seq (.reg [] [⟨some 19, (.binOp .lss 3 (.tmp 18) (.const (.int .i64 7)) 3), 4, none⟩])
    (.seq (.cond (.tmp 19)
    .skip
    (.exit 0))
    (.seq (.block 1 (.seq (.reg [] [⟨some 20, (.move (.tmp 18)), 3, none⟩,
      ⟨some 7, (.assign (.tmp 20)), 3, none⟩])
    (.seq (.reg [] [⟨some 8, (.assign (.const (.bool false))), 4, none⟩])
    (.seq (.seq (.reg [] [⟨some 21, (.move (.tmp 0)), 22, none⟩,
      ⟨some 22, (.call ⟨(.builtin .len), #[(.tmp 21)], #[22]⟩), 3, none⟩,
      ⟨some 23, (.move (.const (.int .i64 0))), 3, none⟩])
    (.block 2 (.loop (.seq (.reg [] [⟨some 24, (.binOp .lss 3 (.tmp 23) (.tmp 22) 3), 0, none⟩])
    (.seq (.cond (.tmp 24)
    .skip
    (.exit 2))
    (.seq (.block 3 (.seq (.reg [] [⟨some 25, (.indexAddr 22 (.tmp 21) (.tmp 23)), 0, none⟩,
      ⟨some 26, (.load 72 (.tmp 25)), 72, none⟩,
      ⟨some 10, (.alloc 72), 0, none⟩,
      ⟨none, (.store 72 (.tmp 10) (.tmp 26)), 0, none⟩])
    (.seq (.seq (.reg [] [⟨some 27, (.fieldAddr 72 (.tmp 10) 0), 0, none⟩,
      ⟨some 28, (.load 3 (.tmp 27)), 3, none⟩,
      ⟨some 29, (.binOp .lss 3 (.tmp 28) (.const (.int .i64 0)) 3), 4, none⟩])
    (.cond (.tmp 29)
    (.seq (.reg [] [⟨some 2, (.assign (.const (.slice none 0 0))), 23, none⟩,
      ⟨some 3, (.assign (.const (.bool false))), 4, none⟩,
      ⟨some 4, (.assign (.const (.int .i64 0))), 29, none⟩])
    .ret)
    .skip))
    (.seq (.reg [] [⟨some 30, (.move (.tmp 6)), 23, none⟩,
      ⟨some 31, (.fieldAddr 72 (.tmp 10) 1), 0, none⟩,
      ⟨some 32, (.load 23 (.tmp 31)), 23, none⟩,
      ⟨some 33, (.call ⟨(.value (.func 142)), #[(.tmp 30), (.tmp 32)], #[23, 23]⟩), 3, none⟩,
      ⟨some 34, (.binOp .add 3 (.tmp 33) (.const (.int .i64 1)) 3), 3, none⟩,
      ⟨some 11, (.assign (.tmp 34)), 3, none⟩])
    (.seq (.reg [] [⟨some 35, (.move (.tmp 6)), 23, none⟩,
      ⟨some 36, (.fieldAddr 72 (.tmp 10) 0), 0, none⟩,
      ⟨some 37, (.load 3 (.tmp 36)), 3, none⟩,
      ⟨some 38, (.indexAddr 23 (.tmp 35) (.tmp 37)), 0, none⟩,
      ⟨some 39, (.load 3 (.tmp 38)), 3, none⟩,
      ⟨some 40, (.move (.tmp 11)), 3, none⟩,
      ⟨some 41, (.binOp .lss 3 (.tmp 39) (.tmp 40) 3), 4, none⟩])
    (.cond (.tmp 41)
    (.reg [] [⟨some 42, (.move (.tmp 6)), 23, none⟩,
      ⟨some 43, (.fieldAddr 72 (.tmp 10) 0), 0, none⟩,
      ⟨some 44, (.load 3 (.tmp 43)), 3, none⟩,
      ⟨some 45, (.move (.tmp 11)), 3, none⟩,
      ⟨some 46, (.indexAddr 23 (.tmp 42) (.tmp 44)), 0, none⟩,
      ⟨none, (.store 3 (.tmp 46) (.tmp 45)), 0, none⟩,
      ⟨some 8, (.assign (.const (.bool true))), 4, none⟩])
    .skip))))))
    (.reg [] [⟨some 47, (.binOp .add 3 (.tmp 23) (.const (.int .i64 1)) 3), 3, none⟩,
      ⟨some 23, (.move (.tmp 47)), 3, none⟩])))))))
    (.seq (.seq (.reg [] [⟨some 48, (.move (.tmp 8)), 4, none⟩,
      ⟨some 49, (.unOp .not 4 (.tmp 48)), 4, none⟩])
    (.cond (.tmp 49)
    (.exit 0)
    .skip))
    (.seq (.reg [] [⟨some 50, (.move (.tmp 7)), 3, none⟩,
      ⟨some 51, (.binOp .eql 3 (.tmp 50) (.const (.int .i64 6)) 3), 4, none⟩])
    (.cond (.tmp 51)
    (.seq (.reg [] [⟨some 2, (.assign (.const (.slice none 0 0))), 23, none⟩,
      ⟨some 3, (.assign (.const (.bool false))), 4, none⟩,
      ⟨some 4, (.assign (.const (.int .i64 0))), 29, none⟩])
    .ret)
    .skip)))))))
    (.reg [] [⟨some 52, (.binOp .add 3 (.tmp 18) (.const (.int .i64 1)) 3), 3, none⟩,
      ⟨some 18, (.move (.tmp 52)), 3, none⟩])))))))
    (.seq (.reg [] [⟨some 53, (.move (.tmp 6)), 23, none⟩,
      ⟨some 2, (.assign (.tmp 53)), 23, none⟩,
      ⟨some 3, (.assign (.const (.bool true))), 4, none⟩,
      ⟨some 4, (.assign (.const (.int .i64 0))), 29, none⟩])
    .ret)))))
theorem C58 {args : List AV} {r : AV} (hn : args.length ≤ 54) (h : vc Try.prog T [] A58 (Fin T [(.tmp 2), (.tmp 3), (.tmp 4)] r) ⟨envOf 0 args, []⟩) : CallP Try.prog 58 args r :=
  callP_of tok mixed Try.func58 (by kernel_rfl) (by kernel_rfl) (by kernel_rfl : Try.f58.ntmps = 54) (by kernel_rfl : Try.f58.body.bind (strip 54 (fun _ => [])) = some A58) hn h
def A59 : ACode :=
  (.seq (.reg [] [⟨some 4, (.assign (.const (.int .i64 0))), 3, none⟩,
      ⟨some 5, (.assign (.const (.int .i64 0))), 29, none⟩])
    (.seq (.seq (.reg [] [⟨some 7, (.move (.tmp 0)), 23, none⟩,
      ⟨some 8, (.call ⟨(.value (.func 143)), #[(.tmp 7)], #[23]⟩), 4, none⟩,
      ⟨some 9, (.unOp .not 4 (.tmp 8)), 4, none⟩])
    (.cond (.tmp 9)
    (.seq (.reg [] [⟨some 4, (.assign (.const (.int .i64 0))), 3, none⟩,
      ⟨some 5, (.assign (.const (.int .i64 1))), 29, none⟩])
    .ret)
    .skip))
    (.seq (.seq (.reg [] [⟨some 10, (.move (.tmp 1)), 23, none⟩,
      ⟨some 11, (.call ⟨(.value (.func 135)), #[(.tmp 10)], #[23]⟩), 29, none⟩,
      ⟨some 6, (.assign (.tmp 11)), 29, none⟩])
    (.seq (.reg [] [⟨some 12, (.move (.tmp 6)), 29, none⟩,
      ⟨some 13, (.binOp .neq 29 (.tmp 12) (.const (.int .i64 0)) 29), 4, none⟩])
    (.cond (.tmp 13)
    (.seq (.reg [] [⟨some 14, (.move (.tmp 6)), 29, none⟩,
      ⟨some 4, (.assign (.const (.int .i64 0))), 3, none⟩,
      ⟨some 5, (.assign (.tmp 14)), 29, none⟩])
    .ret)
    .skip)))
    (.seq (.reg [] [⟨some 15, (.move (.tmp 0)), 23, none⟩,
      ⟨some 16, (.move (.tmp 1)), 23, none⟩,
      ⟨some 17, (.call ⟨(.value (.func 142)), #[(.tmp 15), (.tmp 16)], #[23, 23]⟩), 3, none⟩,
      ⟨some 4, (.assign (.tmp 17)), 3, none⟩,
      ⟨some 5, (.assign (.const (.int .i64 0))), 29, none⟩])
    .ret))))
theorem C59 {args : List AV} {r : AV} (hn : args.length ≤ 18) (h : vc Try.prog T [] A59 (Fin T [(.tmp 4), (.tmp 5)] r) ⟨envOf 0 args, []⟩) : CallP Try.prog 59 args r :=
  callP_of tok mixed Try.func59 (by kernel_rfl) (by kernel_rfl) (by kernel_rfl : Try.f59.ntmps = 18) (by kernel_rfl : Try.f59.body.bind (strip 18 (fun _ => [])) = some A59) hn h
def A136 : ACode :=
  (.seq (.reg [] [⟨some 6, (.assign (.const (.slice none 0 0))), 62, none⟩])
    (.seq (.reg [] [⟨some 9, (.move (.tmp 0)), 23, none⟩,
      ⟨some 10, (.buildSlice 62 1 #[(0, (.tmp 9))]), 62, none⟩,
      ⟨some 7, (.assign (.tmp 10)), 62, none⟩])
    (.seq (.seq (.reg [] [⟨some 8, (.assign (.const (.int .i64 0))), 3, none⟩])
    (.block 0 (.loop (.seq (.seq (.reg [] [⟨some 11, (.move (.tmp 8)), 3, none⟩,
      ⟨some 12, (.move (.tmp 1)), 3, none⟩,
      ⟨some 13, (.binOp .lss 3 (.tmp 11) (.tmp 12) 3), 4, none⟩,
      ⟨some 14, (.move (.tmp 13)), 4, none⟩,
      ⟨some 15, (.move (.tmp 0)), 23, some (14, true)⟩,
      ⟨some 16, (.call ⟨(.builtin .len), #[(.tmp 15)], #[23]⟩), 3, some (14, true)⟩,
      ⟨some 17, (.move (.tmp 2)), 3, some (14, true)⟩,
      ⟨some 18, (.binOp .lss 3 (.tmp 16) (.tmp 17) 3), 4, some (14, true)⟩,
      ⟨some 19, (.pick (.tmp 14) (.tmp 18) (.const (.bool false))), 4, none⟩])
    (.cond (.tmp 19)
    .skip
    (.exit 0)))
    (.seq (.block 1 (.reg [] [⟨some 22, (.move (.tmp 7)), 62, none⟩,
      ⟨some 23, (.move (.tmp 0)), 23, none⟩,
      ⟨some 24, (.call ⟨(.value (.func 152)), #[(.tmp 23)], #[23]⟩), 23, none⟩,
      ⟨some 25, (.move (.tmp 8)), 3, none⟩,
      ⟨some 26, (.buildSlice 23 1 #[(0, (.tmp 25))]), 23, none⟩,
      ⟨some 27, (.call ⟨(.builtin .append), #[(.tmp 24), (.tmp 26)], #[23, 23]⟩), 23, none⟩,
      ⟨some 28, (.move (.tmp 1)), 3, none⟩,
      ⟨some 29, (.move (.tmp 2)), 3, none⟩,
      ⟨some 30, (.call ⟨(.value (.func 136)), #[(.tmp 27), (.tmp 28), (.tmp 29)], #[23, 3, 3]⟩), 62, none⟩,
      ⟨some 31, (.call ⟨(.builtin .append), #[(.tmp 22), (.tmp 30)], #[62, 62]⟩), 62, none⟩,
      ⟨some 7, (.assign (.tmp 31)), 62, none⟩]))
    (.reg [] [⟨some 20, (.move (.tmp 8)), 3, none⟩,
      ⟨some 21, (.binOp .add 3 (.tmp 20) (.const (.int .i64 1)) 3), 3, none⟩,
      ⟨some 8, (.assign (.tmp 21)), 3, none⟩]))))))
    (.seq (.reg [] [⟨some 32, (.move (.tmp 7)), 62, none⟩,
      ⟨some 6, (.assign (.tmp 32)), 62, none⟩])
    .ret))))
theorem C136 {args : List AV} {r : AV} (hn : args.length ≤ 33) (h : vc Try.prog T [] A136 (Fin T [(.tmp 6)] r) ⟨envOf 0 args, []⟩) : CallP Try.prog 136 args r :=
  callP_of tok mixed Try.func136 (by kernel_rfl) (by kernel_rfl) (by kernel_rfl : Try.f136.ntmps = 33) (by kernel_rfl : Try.f136.body.bind (strip 33 (fun _ => [])) = some A136) hn h
def A139 : ACode :=
  (.seq (.reg [] [⟨some 4, (.assign (.const (.slice none 0 0))), 62, none⟩])
    (.seq (.reg [] [⟨some 5, (.assign (.const (.slice none 0 0))), 62, none⟩])
    (.seq (.reg [] [⟨some 6, (.assign (.const (.bool false))), 4, none⟩])
    (.seq (.seq (.reg [] [⟨some 7, (.assign (.const (.int .i64 0))), 3, none⟩])
    (.block 0 (.loop (.seq (.seq (.reg [] [⟨some 8, (.move (.tmp 7)), 3, none⟩,
      ⟨some 9, (.move (.tmp 0)), 62, none⟩,
      ⟨some 10, (.call ⟨(.builtin .len), #[(.tmp 9)], #[62]⟩), 3, none⟩,
      ⟨some 11, (.binOp .lss 3 (.tmp 8) (.tmp 10) 3), 4, none⟩])
    (.cond (.tmp 11)
    .skip
    (.exit 0)))
    (.seq (.block 1 (.seq (.seq (.reg [] [⟨some 14, (.move (.tmp 0)), 62, none⟩,
      ⟨some 15, (.move (.tmp 7)), 3, none⟩,
      ⟨some 16, (.indexAddr 62 (.tmp 14) (.tmp 15)), 0, none⟩,
      ⟨some 17, (.load 23 (.tmp 16)), 23, none⟩,
      ⟨some 18, (.move (.tmp 1)), 23, none⟩,
      ⟨some 19, (.call ⟨(.value (.func 33)), #[(.tmp 17), (.tmp 18)], #[23, 23]⟩), 4, none⟩])
    (.cond (.tmp 19)
    (.seq (.reg [] [⟨some 20, (.move (.tmp 0)), 62, none⟩,
      ⟨some 4, (.assign (.tmp 20)), 62, none⟩])
    .ret)
    .skip))
    (.seq (.seq (.reg [] [⟨some 21, (.move (.tmp 6)), 4, none⟩,
      ⟨some 22, (.unOp .not 4 (.tmp 21)), 4, none⟩,
      ⟨some 23, (.move (.tmp 22)), 4, none⟩,
      ⟨some 24, (.move (.tmp 1)), 23, some (23, true)⟩,
      ⟨some 25, (.move (.tmp 0)), 62, some (23, true)⟩,
      ⟨some 26, (.move (.tmp 7)), 3, some (23, true)⟩,
      ⟨some 27, (.indexAddr 62 (.tmp 25) (.tmp 26)), 0, some (23, true)⟩,
      ⟨some 28, (.load 23 (.tmp 27)), 23, some (23, true)⟩,
      ⟨some 29, (.call ⟨(.value (.func 196)), #[(.tmp 24), (.tmp 28)], #[23, 23]⟩), 4, some (23, true)⟩,
      ⟨some 30, (.pick (.tmp 23) (.tmp 29) (.const (.bool false))), 4, none⟩])
    (.cond (.tmp 30)
    (.seq (.reg [] [⟨some 31, (.move (.tmp 5)), 62, none⟩,
      ⟨some 32, (.move (.tmp 1)), 23, none⟩,
      ⟨some 33, (.buildSlice 62 1 #[(0, (.tmp 32))]), 62, none⟩,
      ⟨some 34, (.call ⟨(.builtin .append), #[(.tmp 31), (.tmp 33)], #[62, 62]⟩), 62, none⟩,
      ⟨some 5, (.assign (.tmp 34)), 62, none⟩])
    (.reg [] [⟨some 6, (.assign (.const (.bool true))), 4, none⟩]))
    .skip))
    (.reg [] [⟨some 35, (.move (.tmp 5)), 62, none⟩,
      ⟨some 36, (.move (.tmp 0)), 62, none⟩,
      ⟨some 37, (.move (.tmp 7)), 3, none⟩,
      ⟨some 38, (.indexAddr 62 (.tmp 36) (.tmp 37)), 0, none⟩,
      ⟨some 39, (.load 23 (.tmp 38)), 23, none⟩,
      ⟨some 40, (.buildSlice 62 1 #[(0, (.tmp 39))]), 62, none⟩,
      ⟨some 41, (.call ⟨(.builtin .append), #[(.tmp 35), (.tmp 40)], #[62, 62]⟩), 62, none⟩,
      ⟨some 5, (.assign (.tmp 41)), 62, none⟩]))))
    (.reg [] [⟨some 12, (.move (.tmp 7)), 3, none⟩,
      ⟨some 13, (.binOp .add 3 (.tmp 12) (.const (.int .i64 1)) 3), 3, none⟩,
      ⟨some 7, (.assign (.tmp 13)), 3, none⟩]))))))
    (.seq (.seq (.reg [] [⟨some 42, (.move (.tmp 6)), 4, none⟩,
      ⟨some 43, (.unOp .not 4 (.tmp 42)), 4, none⟩])
    (.cond (.tmp 43)
    (.reg [] [⟨some 44, (.move (.tmp 5)), 62, none⟩,
      ⟨some 45, (.move (.tmp 1)), 23, none⟩,
      ⟨some 46, (.buildSlice 62 1 #[(0, (.tmp 45))]), 62, none⟩,
      ⟨some 47, (.call ⟨(.builtin .append), #[(.tmp 44), (.tmp 46)], #[62, 62]⟩), 62, none⟩,
      ⟨some 5, (.assign (.tmp 47)), 62, none⟩])
    .skip))
    (.seq (.reg [] [⟨some 48, (.move (.tmp 5)), 62, none⟩,
      ⟨some 4, (.assign (.tmp 48)), 62, none⟩])
    .ret))))))
theorem C139 {args : List AV} {r : AV} (hn : args.length ≤ 49) (h : vc Try.prog T [] A139 (Fin T [(.tmp 4)] r) ⟨envOf 0 args, []⟩) : CallP Try.prog 139 args r :=
  callP_of tok mixed Try.func139 (by kernel_rfl) (by kernel_rfl) (by kernel_rfl : Try.f139.ntmps = 49) (by kernel_rfl : Try.f139.body.bind (strip 49 (fun _ => [])) = some A139) hn h
def A142 : ACode :=
  (.seq (.reg [] [⟨some 4, (.assign (.const (.int .i64 0))), 3, none⟩])
    (.seq (.reg [] [⟨some 5, (.assign (.const (.int .i64 0))), 3, none⟩])
    (.seq (.seq (.reg [] [⟨some 8, (.move (.tmp 1)), 23, none⟩,
      ⟨some 9, (.call ⟨(.builtin .len), #[(.tmp 8)], #[23]⟩), 3, none⟩,
      ⟨some 10, (.move (.const (.int .i64 0))), 3, none⟩])
    (.block 0 (.loop (.seq (.reg [] [⟨some 11, (.binOp .lss 3 (.tmp 10) (.tmp 9) 3), 0, none⟩])
    (.seq (.cond (.tmp 11)
    .skip
    (.exit 0))
    (.seq (.block 1 (.seq (.reg [] [⟨some 12, (.indexAddr 23 (.tmp 8) (.tmp 10)), 0, none⟩,
      ⟨some 13, (.load 3 (.tmp 12)), 3, none⟩,
      ⟨some 7, (.assign (.tmp 13)), 3, none⟩])
    (.reg [] [⟨some 14, (.move (.tmp 5)), 3, none⟩,
      ⟨some 15, (.move (.tmp 0)), 23, none⟩,
      ⟨some 16, (.move (.tmp 7)), 3, none⟩,
      ⟨some 17, (.indexAddr 23 (.tmp 15) (.tmp 16)), 0, none⟩,
      ⟨some 18, (.load 3 (.tmp 17)), 3, none⟩,
      ⟨some 19, (.binOp .add 3 (.tmp 14) (.tmp 18) 3), 3, none⟩,
      ⟨some 5, (.assign (.tmp 19)), 3, none⟩])))
    (.reg [] [⟨some 20, (.binOp .add 3 (.tmp 10) (.const (.int .i64 1)) 3), 3, none⟩,
      ⟨some 10, (.move (.tmp 20)), 3, none⟩])))))))
    (.seq (.reg [] [⟨some 21, (.move (.tmp 5)), 3, none⟩,
      ⟨some 4, (.assign (.tmp 21)), 3, none⟩])
    .ret))))
theorem C142 {args : List AV} {r : AV} (hn : args.length ≤ 22) (h : vc Try.prog T [] A142 (Fin T [(.tmp 4)] r) ⟨envOf 0 args, []⟩) : CallP Try.prog 142 args r :=
  callP_of tok mixed Try.func142 (by kernel_rfl) (by kernel_rfl) (by kernel_rfl : Try.f142.ntmps = 22) (by kernel_rfl : Try.f142.body.bind (strip 22 (fun _ => [])) = some A142) hn h
def A143 : ACode :=
  (.seq (.reg [] [⟨some 2, (.assign (.const (.bool false))), 4, none⟩])
    (.seq (.reg [] [⟨some 3, (.move (.tmp 0)), 23, none⟩,
      ⟨some 4, (.call ⟨(.builtin .len), #[(.tmp 3)], #[23]⟩), 3, none⟩,
      ⟨some 5, (.binOp .eql 3 (.tmp 4) (.const (.int .i64 6)) 3), 4, none⟩,
      ⟨some 6, (.move (.tmp 5)), 4, none⟩,
      ⟨some 7, (.move (.tmp 0)), 23, some (6, true)⟩,
      ⟨some 8, (.call ⟨(.value (.func 132)), #[(.tmp 7), (.func 197)], #[23, 139]⟩), 4, some (6, true)⟩,
      ⟨some 9, (.unOp .not 4 (.tmp 8)), 4, some (6, true)⟩,
      ⟨some 10, (.pick (.tmp 6) (.tmp 9) (.const (.bool false))), 4, none⟩,
      ⟨some 2, (.assign (.tmp 10)), 4, none⟩])
    .ret))
theorem C143 {args : List AV} {r : AV} (hn : args.length ≤ 11) (h : vc Try.prog T [] A143 (Fin T [(.tmp 2)] r) ⟨envOf 0 args, []⟩) : CallP Try.prog 143 args r :=
  callP_of tok mixed Try.func143 (by kernel_rfl) (by kernel_rfl) (by kernel_rfl : Try.f143.ntmps = 11) (by kernel_rfl : Try.f143.body.bind (strip 11 (fun _ => [])) = some A143) hn h
def A196 : ACode :=
  (.seq (.reg [] [⟨some 4, (.assign (.const (.bool false))), 4, none⟩])
    (.seq (.seq (.reg [] [⟨some 5, (.assign (.const (.int .i64 0))), 3, none⟩])
    (.block 0 (.loop (.seq (.seq (.reg [] [⟨some 6, (.move (.tmp 5)), 3, none⟩,
      ⟨some 7, (.move (.tmp 0)), 23, none⟩,
      ⟨some 8, (.call ⟨(.builtin .len), #[(.tmp 7)], #[23]⟩), 3, none⟩,
      ⟨some 9, (.binOp .lss 3 (.tmp 6) (.tmp 8) 3), 4, none⟩,
      ⟨some 10, (.move (.tmp 9)), 4, none⟩,
      ⟨some 11, (.move (.tmp 5)), 3, some (10, true)⟩,
      ⟨some 12, (.move (.tmp 1)), 23, some (10, true)⟩,
      ⟨some 13, (.call ⟨(.builtin .len), #[(.tmp 12)], #[23]⟩), 3, some (10, true)⟩,
      ⟨some 14, (.binOp .lss 3 (.tmp 11) (.tmp 13) 3), 4, some (10, true)⟩,
      ⟨some 15, (.pick (.tmp 10) (.tmp 14) (.const (.bool false))), 4, none⟩])
    (.cond (.tmp 15)
    .skip
    (.exit 0)))
    (.seq (.block 1 (.seq (.draw [] [⟨some 18, (.move (.tmp 0)), 23, none⟩,
      ⟨some 19, (.move (.tmp 5)), 3, none⟩,
      ⟨some 20, (.indexAddr 23 (.tmp 18) (.tmp 19)), 0, none⟩,
      ⟨some 21, (.load 3 (.tmp 20)), 3, none⟩,
      ⟨some 22, (.move (.tmp 1)), 23, none⟩,
      ⟨some 23, (.move (.tmp 5)), 3, none⟩,
      ⟨some 24, (.indexAddr 23 (.tmp 22) (.tmp 23)), 0, none⟩,
      ⟨some 25, (.load 3 (.tmp 24)), 3, none⟩,
      ⟨some 26, (.binOp .neq 3 (.tmp 21) (.tmp 25) 3), 4, none⟩] [(0, 1), (0, 4), (1, 4), (2, 4), (3, 4), (0, 5), (1, 5), (2, 5), (3, 5), (4, 5), (0, 6), (1, 6), (2, 6), (3, 6), (0, 7), (1, 7), (2, 7), (3, 7)])
    (.cond (.tmp 26)
    (.seq (.draw [] [⟨some 27, (.move (.tmp 0)), 23, none⟩,
      ⟨some 28, (.move (.tmp 5)), 3, none⟩,
      ⟨some 29, (.indexAddr 23 (.tmp 27) (.tmp 28)), 0, none⟩,
      ⟨some 30, (.load 3 (.tmp 29)), 3, none⟩,
      ⟨some 31, (.move (.tmp 1)), 23, none⟩,
      ⟨some 32, (.move (.tmp 5)), 3, none⟩,
      ⟨some 33, (.indexAddr 23 (.tmp 31) (.tmp 32)), 0, none⟩,
      ⟨some 34, (.load 3 (.tmp 33)), 3, none⟩,
      ⟨some 35, (.binOp .lss 3 (.tmp 30) (.tmp 34) 3), 4, none⟩,
      ⟨some 4, (.assign (.tmp 35)), 4, none⟩] [(0, 1), (0, 4), (1, 4), (2, 4), (3, 4), (0, 5), (1, 5), (2, 5), (3, 5), (4, 5), (0, 6), (1, 6), (2, 6), (3, 6), (0, 7), (1, 7), (2, 7), (3, 7)])
    .ret)
    .skip)))
    (.reg [] [⟨some 16, (.move (.tmp 5)), 3, none⟩,
      ⟨some 17, (.binOp .add 3 (.tmp 16) (.const (.int .i64 1)) 3), 3, none⟩,
      ⟨some 5, (.assign (.tmp 17)), 3, none⟩]))))))
    (.seq (.reg [] [⟨some 36, (.move (.tmp 0)), 23, none⟩,
      ⟨some 37, (.call ⟨(.builtin .len), #[(.tmp 36)], #[23]⟩), 3, none⟩,
      ⟨some 38, (.move (.tmp 1)), 23, none⟩,
      ⟨some 39, (.call ⟨(.builtin .len), #[(.tmp 38)], #[23]⟩), 3, none⟩,
      ⟨some 40, (.binOp .lss 3 (.tmp 37) (.tmp 39) 3), 4, none⟩,
      ⟨some 4, (.assign (.tmp 40)), 4, none⟩])
    .ret)))
theorem C196 {args : List AV} {r : AV} (hn : args.length ≤ 41) (h : vc Try.prog T [] A196 (Fin T [(.tmp 4)] r) ⟨envOf 0 args, []⟩) : CallP Try.prog 196 args r :=
  callP_of tok mixed Try.func196 (by kernel_rfl) (by kernel_rfl) (by kernel_rfl : Try.f196.ntmps = 41) (by kernel_rfl : Try.f196.body.bind (strip 41 (fun _ => [])) = some A196) hn h

end Go.Proofs.Ytaooenmkofjafaa
end

section
/- Contracts: order.Derive and what it checks. -/
namespace Go.Proofs.Ytaooenmkofjafaa
open Go.Abs Go
set_option maxRecDepth 20000
set_option maxHeartbeats 2000000
attribute [local irreducible] PreK CondK CallK CallG CallX LoopK
attribute [local simp] avsEq avEq akind teq vkind vEq

theorem gbad_c (g : Int) : CallP Try.prog 133 [iv g] (bv (gBad g)) := by
  refine C133 (by simp) ?_
  simp [A133]
  try simp [gBad]
theorem gValidate_c (g : List Int) (hl : g.length ≤ 1000) : CallP Try.prog 52 [ints g] (iv (gErr g)) := by
  refine C52 (by simp) ?_
  generalize hR : gErr g = R
  unfold gErr at hR
  simp [A52]
  refine CondK.intro (fun h => ?_) (fun h => ?_)
  · simp at h
    rw [if_pos (by omega)] at hR
    simp [hR]
  · simp at h
    rw [if_neg (by omega)] at hR
    try simp 
    repeat' (first
      | (refine CallX.pure (containsFunc_c g (big_of hl) 133 [] gBad gbad_c (by simp) (by simp) (by simp)) (by simp) (by simp) ?_; try simp )
      | (refine CallK.intro (containsFunc_c g (big_of hl) 133 [] gBad gbad_c (by simp) (by simp) (by simp)) (by simp) (by simp) ?_; try simp )
      | (refine CallG.intro (fun _ => containsFunc_c g (big_of hl) 133 [] gBad gbad_c (by simp) (by simp) (by simp)) (by simp) (by simp) ?_; try simp )
      | ((with_reducible refine PreK.intro ?_ ?_); (next => (first | omega | (intros; first | omega | (refine ⟨by omega, ?_⟩; repeat (first | assumption | constructor)) | assumption))); intro _; try simp )
      | fail)
    refine CondK.intro (fun h2 => ?_) (fun h2 => ?_)
    · rw [if_pos (by simpa using h2)] at hR
      simp [hR]
    · rw [if_neg (by simpa using h2)] at hR
      try simp 
      refine LoopK.by (fun i : Nat => ⟨[(12, iv i), (11, iv g.length), (10, ints g), (0, ints g)], []⟩) (fun i => g.length - i)
        (fun i => i ≤ g.length ∧ (if dups (g.take i) (g.drop i) then 5 else 0) = R) 0 (by simpa using hR) (by simp) ?_
      intro i Q' ⟨hi, hc⟩ hq he hr
      try simp 
      refine CondK.intro (fun h3 => ?_) (fun h3 => ?_)
      · simp at h3
        rw [drop_cons g i h3, dups] at hc
        have hb : (g.take i).length ≤ big := by simp only [List.length_take, big]; omega
        have hct := contains_c (g.take i) (el g i) hb
        have e : ((g.take i).any fun x => decide (el g i = x)) = (g.take i).contains (el g i) := by
          rw [Bool.eq_iff_iff]; simp
        rw [e] at hct
        simp at hct
        simp [h3, Nat.le_of_lt h3]
        refine CallX.pure (by simpa [List.map_take] using hct) (by simp) (by simp) ?_
        try simp 
        refine CondK.intro (fun h4 => ?_) (fun h4 => ?_)
        · simp at h4
          simp [h4] at hc
          try simp 
          apply hr
          simp [hc]
        · simp at h4
          simp only [List.contains_eq_mem, h4, decide_false, Bool.false_or, ← take_succ g i h3] at hc
          try simp 
          repeat' (first
            | ((with_reducible refine PreK.intro ?_ ?_); (next => (first | omega | (intros; first | omega | (refine ⟨by omega, ?_⟩; repeat (first | assumption | constructor)) | assumption))); intro _; try simp )
            | fail)
          exact hq (i + 1) _ ⟨by omega, hc⟩ (by omega) (by simp)
      · simp at h3
        rw [List.drop_eq_nil_of_le (by omega), dups] at hc
        simp at hc
        try simp 
        apply he
        simp [hc]
theorem gErr_ok {g : List Int} (h : gErr g = 0) : gOK g := by
  unfold gErr at h
  by_cases h1 : 4 < g.length
  · simp [h1] at h
  · rw [if_neg h1] at h
    by_cases h2 : g.any gBad = true
    · rw [if_pos h2] at h; cases h
    · intro x hx
      simp only [List.any_eq_true, not_exists, not_and] at h2
      have := h2 x hx
      simp [gBad] at this
      omega
def firstG : List (List Int) → Int
  | [] => 0
  | g :: l => if gErr g ≠ 0 then gErr g else firstG l
def ocheckErr (s : List Rule) (w : List Int) (gs : List (List Int)) : Int := if sysErr s ≠ 0 then sysErr s else if wordErr w ≠ 0 then wordErr w else firstG gs
theorem ocheck_c (s : List Rule) (w : List Int) (gs : List (List Int)) (h : Sys.small s) (hw : w.length ≤ 1000) (hn : gs.length ≤ 1000) (hg : ∀ g ∈ gs, g.length ≤ 1000) :
    CallP Try.prog 107 [rulesV s, ints w, .seq 1 (gs.map ints) false] (iv (ocheckErr s w gs)) := by
  refine C107 (by simp) ?_
  generalize hR : ocheckErr s w gs = R
  unfold ocheckErr at hR
  simp [A107]
  try simp 
  repeat' (first
    | (refine CallX.pure (Validate_c s h) (by simp) (by simp) ?_; try simp )
    | (refine CallK.intro (Validate_c s h) (by simp) (by simp) ?_; try simp )
    | (refine CallG.intro (fun _ => Validate_c s h) (by simp) (by simp) ?_; try simp )
    | ((with_reducible refine PreK.intro ?_ ?_); (next => (first | omega | (intros; first | omega | (refine ⟨by omega, ?_⟩; repeat (first | assumption | constructor)) | assumption))); intro _; try simp )
    | fail)
  refine CondK.intro (fun h1 => ?_) (fun h1 => ?_)
  · simp at h1
    simp [h1] at hR
    simp [hR]
  · simp at h1
    simp [h1] at hR
    try simp 
    repeat' (first
      | (refine CallX.pure (validateWord_c w (big_of hw)) (by simp) (by simp) ?_; try simp )
      | (refine CallK.intro (validateWord_c w (big_of hw)) (by simp) (by simp) ?_; try simp )
      | (refine CallG.intro (fun _ => validateWord_c w (big_of hw)) (by simp) (by simp) ?_; try simp )
      | ((with_reducible refine PreK.intro ?_ ?_); (next => (first | omega | (intros; first | omega | (refine ⟨by omega, ?_⟩; repeat (first | assumption | constructor)) | assumption))); intro _; try simp )
      | fail)
    refine CondK.intro (fun h2 => ?_) (fun h2 => ?_)
    · simp at h2
      simp [h2] at hR
      simp [hR]
    · simp at h2
      simp [h2] at hR
      try simp 
      refine LoopK.by (fun i : Nat => ⟨[(24, iv i), (23, iv gs.length), (22, .seq 1 (gs.map ints) false)], []⟩) (fun i => gs.length - i) (fun i => i ≤ gs.length ∧ firstG (gs.drop i) = R) 0 (by simpa using hR) (by simp) ?_
      intro i Q' ⟨hi, hc⟩ hq he hr
      try simp 
      refine CondK.intro (fun h3 => ?_) (fun h3 => ?_)
      · simp at h3
        rw [drop_cons gs i h3, firstG] at hc
        have hgi := hg (el gs i) (by rw [el_eq gs i h3]; exact List.getElem_mem h3)
        simp [h3]
        try simp 
        repeat' (first
          | (refine CallX.pure (gValidate_c (el gs i) hgi) (by simp) (by simp) ?_; try simp )
          | (refine CallK.intro (gValidate_c (el gs i) hgi) (by simp) (by simp) ?_; try simp )
          | (refine CallG.intro (fun _ => gValidate_c (el gs i) hgi) (by simp) (by simp) ?_; try simp )
          | ((with_reducible refine PreK.intro ?_ ?_); (next => (first | omega | (intros; first | omega | (refine ⟨by omega, ?_⟩; repeat (first | assumption | constructor)) | assumption))); intro _; try simp )
          | fail)
        refine CondK.intro (fun h4 => ?_) (fun h4 => ?_)
        · simp at h4
          simp [h4] at hc
          try simp 
          apply hr
          simp [hc]
        · simp at h4
          simp [h4] at hc
          try simp 
          repeat' (first
            | ((with_reducible refine PreK.intro ?_ ?_); (next => (first | omega | (intros; first | omega | (refine ⟨by omega, ?_⟩; repeat (first | assumption | constructor)) | assumption))); intro _; try simp )
            | fail)
          exact hq (i + 1) _ ⟨by omega, hc⟩ (by omega) (by simp)
      · simp at h3
        rw [List.drop_eq_nil_of_le (by omega)] at hc
        simp [firstG] at hc
        try simp 
        apply he
        simp [hc]
theorem ocheck_one (s : List Rule) (w g : List Int) : ocheckErr s w [g] = orderErr s w g := by
  unfold ocheckErr orderErr swErr
  by_cases h : sysErr s = 0
  · by_cases h2 : wordErr w = 0
    · by_cases h3 : gErr g = 0 <;> simp [h, h2, h3, firstG]
    · simp [h, h2]
  · simp [h]
theorem orderErr_zero {s : List Rule} {w g : List Int} (h : orderErr s w g = 0) : swErr s w = 0 ∧ gErr g = 0 := by
  unfold orderErr at h
  by_cases h1 : swErr s w = 0
  · simp [h1] at h; exact ⟨h1, h⟩
  · simp [h1] at h
theorem Derive_c (s : List Rule) (w gs : List Int) (hs : Sys.small s) (hw : w.length ≤ 1000) (hgl : gs.length ≤ 1000) :
    CallP Try.prog 29 [rulesV s, ints w, ints gs] (.tup [choicesV (DeriveR s w gs).1, ints (DeriveR s w gs).2.1, iv (DeriveR s w gs).2.2]) := by
  refine C29 (by simp) ?_
  have hck := ocheck_c s w [gs] hs hw (by simp) (by simpa using hgl)
  rw [ocheck_one] at hck
  simp [A29]
  try simp 
  repeat' (first
    | (refine CallX.pure (hck) (by simp) (by simp) ?_; try simp )
    | (refine CallK.intro (hck) (by simp) (by simp) ?_; try simp )
    | (refine CallG.intro (fun _ => hck) (by simp) (by simp) ?_; try simp )
    | ((with_reducible refine PreK.intro ?_ ?_); (next => (first | omega | (intros; first | omega | (refine ⟨by omega, ?_⟩; repeat (first | assumption | constructor)) | assumption))); intro _; try simp )
    | fail)
  refine CondK.intro (fun h1 => ?_) (fun h1 => ?_)
  · simp at h1
    simp [DeriveR, h1]
  · simp at h1
    have hd := derive_c s w gs hs hw (gErr_ok (orderErr_zero h1).2) hgl
    by_cases h2 : (deriveR s gs 60 w).2.2 = true
    · simp only [h2, if_true] at hd
      try simp 
      repeat' (first
        | (refine CallX.pure (hd) (by simp) (by simp) ?_; try simp )
        | (refine CallK.intro (hd) (by simp) (by simp) ?_; try simp )
        | (refine CallG.intro (fun _ => hd) (by simp) (by simp) ?_; try simp )
        | ((with_reducible refine PreK.intro ?_ ?_); (next => (first | omega | (intros; first | omega | (refine ⟨by omega, ?_⟩; repeat (first | assumption | constructor)) | assumption))); intro _; try simp )
        | fail)
      simp [DeriveR, h1, h2]
    · simp only [h2, if_false] at hd
      try simp 
      repeat' (first
        | (refine CallX.pure (hd) (by simp) (by simp) ?_; try simp )
        | (refine CallK.intro (hd) (by simp) (by simp) ?_; try simp )
        | (refine CallG.intro (fun _ => hd) (by simp) (by simp) ?_; try simp )
        | ((with_reducible refine PreK.intro ?_ ?_); (next => (first | omega | (intros; first | omega | (refine ⟨by omega, ?_⟩; repeat (first | assumption | constructor)) | assumption))); intro _; try simp )
        | fail)
      simp [DeriveR, h1, h2]
theorem Form_c (s : List Rule) (w gs : List Int) (hs : Sys.small s) (hw : w.length ≤ 1000) (hgl : gs.length ≤ 1000) :
    CallP Try.prog 31 [rulesV s, ints w, ints gs] (.tup [ints (DeriveR s w gs).2.1, iv (DeriveR s w gs).2.2]) := by
  refine C31 (by simp) ?_
  simp [A31]
  try simp 
  repeat' (first
    | (refine CallX.pure (Derive_c s w gs hs hw hgl) (by simp) (by simp) ?_; try simp )
    | (refine CallK.intro (Derive_c s w gs hs hw hgl) (by simp) (by simp) ?_; try simp )
    | (refine CallG.intro (fun _ => Derive_c s w gs hs hw hgl) (by simp) (by simp) ?_; try simp )
    | ((with_reducible refine PreK.intro ?_ ?_); (next => (first | omega | (intros; first | omega | (refine ⟨by omega, ?_⟩; repeat (first | assumption | constructor)) | assumption))); intro _; try simp )
    | fail)
end Go.Proofs.Ytaooenmkofjafaa
end

section
/- Contracts: the reference's grounds. -/
namespace Go.Proofs.Ytaooenmkofjafaa
open Go.Abs Go
set_option maxRecDepth 20000
set_option maxHeartbeats 2000000
attribute [local irreducible] PreK CondK CallK CallG CallX LoopK
attribute [local simp] avsEq avEq akind teq vkind vEq

theorem rword_c (s : List Rule) (w : List Int) (h : Sys.small s) (hw : w.length ≤ 1000) : CallP Try.prog 120 [rulesV s, ints w] (iv (swErr s w)) := by
  refine C120 (by simp) ?_
  simp [A120]
  try simp 
  repeat' (first
    | (refine CallX.pure (rsValidate_c s h) (by simp) (by simp) ?_; try simp )
    | (refine CallK.intro (rsValidate_c s h) (by simp) (by simp) ?_; try simp )
    | (refine CallG.intro (fun _ => rsValidate_c s h) (by simp) (by simp) ?_; try simp )
    | ((with_reducible refine PreK.intro ?_ ?_); (next => (first | omega | (intros; first | omega | (refine ⟨by omega, ?_⟩; repeat (first | assumption | constructor)) | assumption))); intro _; try simp )
    | fail)
  refine CondK.intro (fun h1 => ?_) (fun h1 => ?_)
  · simp at h1
    simp [swErr, h1]
  · simp at h1
    try simp 
    repeat' (first
      | (refine CallX.pure (rValidateWord_c w hw) (by simp) (by simp) ?_; try simp )
      | (refine CallK.intro (rValidateWord_c w hw) (by simp) (by simp) ?_; try simp )
      | (refine CallG.intro (fun _ => rValidateWord_c w hw) (by simp) (by simp) ?_; try simp )
      | ((with_reducible refine PreK.intro ?_ ?_); (next => (first | omega | (intros; first | omega | (refine ⟨by omega, ?_⟩; repeat (first | assumption | constructor)) | assumption))); intro _; try simp )
      | fail)
    simp [swErr, h1]
theorem rall_c (s : List Rule) (w g : List Int) (h : Sys.small s) (hw : w.length ≤ 1000) (hg : g.length ≤ 1000) : CallP Try.prog 109 [rulesV s, ints w, ints g] (iv (orderErr s w g)) := by
  refine C109 (by simp) ?_
  simp [A109]
  try simp 
  repeat' (first
    | (refine CallX.pure (rword_c s w h hw) (by simp) (by simp) ?_; try simp )
    | (refine CallK.intro (rword_c s w h hw) (by simp) (by simp) ?_; try simp )
    | (refine CallG.intro (fun _ => rword_c s w h hw) (by simp) (by simp) ?_; try simp )
    | ((with_reducible refine PreK.intro ?_ ?_); (next => (first | omega | (intros; first | omega | (refine ⟨by omega, ?_⟩; repeat (first | assumption | constructor)) | assumption))); intro _; try simp )
    | fail)
  refine CondK.intro (fun h1 => ?_) (fun h1 => ?_)
  · simp at h1
    simp [orderErr, h1]
  · simp at h1
    try simp 
    repeat' (first
      | (refine CallX.pure (rvalidate_c g (big_of hg)) (by simp) (by simp) ?_; try simp )
      | (refine CallK.intro (rvalidate_c g (big_of hg)) (by simp) (by simp) ?_; try simp )
      | (refine CallG.intro (fun _ => rvalidate_c g (big_of hg)) (by simp) (by simp) ?_; try simp )
      | ((with_reducible refine PreK.intro ?_ ?_); (next => (first | omega | (intros; first | omega | (refine ⟨by omega, ?_⟩; repeat (first | assumption | constructor)) | assumption))); intro _; try simp )
      | fail)
    simp [orderErr, h1]
theorem rcandidates_c (s : List Rule) (w : List Int) (h : Sys.small s) (hw : w.length ≤ 1000) : CallP Try.prog 115 [rulesV s, ints w] (stepsV (stepsM s w)) := by
  refine C115 (by simp) ?_
  simp [A115]
  try simp 
  repeat' (first
    | (refine CallX.pure (rSteps_c s w h hw) (by simp) (by simp) ?_; try simp )
    | (refine CallK.intro (rSteps_c s w h hw) (by simp) (by simp) ?_; try simp )
    | (refine CallG.intro (fun _ => rSteps_c s w h hw) (by simp) (by simp) ?_; try simp )
    | ((with_reducible refine PreK.intro ?_ ?_); (next => (first | omega | (intros; first | omega | (refine ⟨by omega, ?_⟩; repeat (first | assumption | constructor)) | assumption))); intro _; try simp )
    | fail)
theorem rafter_c (s : List Rule) (w : List Int) (a : Step) (hs : Sys.small s) (hw : w.length ≤ 1000) (h0 : 0 ≤ a.rule) (h1 : a.rule < s.length) : CallP Try.prog 183 [rulesV s, ints w, stepV a] (ints (applyM (el s a.rule.toNat) w a.place).1) := by
  refine C183 (by simp) ?_
  have o5 : a.rule.toNat < s.length := by omega
  simp [A183]
  try simp [o5]
  repeat' (first
    | (refine CallX.pure (rApply_c (el s a.rule.toNat) w a.place (hs.el o5) hw) (by simp) (by simp) ?_; try simp [o5])
    | (refine CallK.intro (rApply_c (el s a.rule.toNat) w a.place (hs.el o5) hw) (by simp) (by simp) ?_; try simp [o5])
    | (refine CallG.intro (fun _ => rApply_c (el s a.rule.toNat) w a.place (hs.el o5) hw) (by simp) (by simp) ?_; try simp [o5])
    | ((with_reducible refine PreK.intro ?_ ?_); (next => (first | omega | (intros; first | omega | (refine ⟨by omega, ?_⟩; repeat (first | assumption | constructor)) | assumption))); intro _; try simp [o5])
    | fail)
theorem rlasts_c (s : List Rule) (w : List Int) (a b : Step) (hs : Sys.small s) (hw : w.length ≤ 1000) (ha : stepOK s a) (hb : stepOK s b) :
    CallP Try.prog 122 [rulesV s, ints w, stepV a, stepV b] (bv (lastsM w (el s a.rule.toNat) a (el s b.rule.toNat) b)) := by
  refine C122 (by simp) ?_
  have oa : a.rule.toNat < s.length := by have := ha.1; have := ha.2.1; omega
  have ob : b.rule.toNat < s.length := by have := hb.1; have := hb.2.1; omega
  obtain ⟨a1, a2, a3, a4⟩ := ha
  obtain ⟨b1, b2, b3, b4⟩ := hb
  have ht := (hs.el ob).1
  have haf := rafter_c s w b hs hw b1 b2
  have hw2 : (applyM (el s b.rule.toNat) w b.place).1.length ≤ 1000 := by have := applyM_len (el s b.rule.toNat) w b.place; omega
  simp [A122]
  try simp 
  repeat' (first
    | ((with_reducible refine PreK.intro ?_ ?_); (next => (first | omega | (intros; first | omega | (refine ⟨by omega, ?_⟩; repeat (first | assumption | constructor)) | assumption))); intro _; try simp )
    | fail)
  refine CondK.intro (fun h1 => ?_) (fun h1 => ?_)
  · simp at h1
    try simp [oa, ob]
    repeat' (first
      | ((with_reducible refine PreK.intro ?_ ?_); (next => (first | omega | (intros; first | omega | (refine ⟨by omega, ?_⟩; repeat (first | assumption | constructor)) | assumption))); intro _; try simp [oa, ob])
      | fail)
    refine CondK.intro (fun h2 => ?_) (fun h2 => ?_)
    · simp at h2
      try simp [oa, ob]
      repeat' (first
        | (refine CallX.pure (haf) (by simp) (by simp) ?_; try simp [oa, ob])
        | (refine CallK.intro (haf) (by simp) (by simp) ?_; try simp [oa, ob])
        | (refine CallG.intro (fun _ => haf) (by simp) (by simp) ?_; try simp [oa, ob])
        | (refine CallX.pure (rApply_c (el s a.rule.toNat) (applyM (el s b.rule.toNat) w b.place).1 (a.place + (el s b.rule.toNat).to.length - 1) (hs.el oa) hw2) (by simp) (by simp) ?_; try simp [oa, ob])
        | (refine CallK.intro (rApply_c (el s a.rule.toNat) (applyM (el s b.rule.toNat) w b.place).1 (a.place + (el s b.rule.toNat).to.length - 1) (hs.el oa) hw2) (by simp) (by simp) ?_; try simp [oa, ob])
        | (refine CallG.intro (fun _ => rApply_c (el s a.rule.toNat) (applyM (el s b.rule.toNat) w b.place).1 (a.place + (el s b.rule.toNat).to.length - 1) (hs.el oa) hw2) (by simp) (by simp) ?_; try simp [oa, ob])
        | ((with_reducible refine PreK.intro ?_ ?_); (next => (first | omega | (intros; first | omega | (refine ⟨by omega, ?_⟩; repeat (first | assumption | constructor)) | assumption))); intro _; try simp [oa, ob])
        | fail)
      simp [lastsM, lastPlace, h1, h2]
    · simp at h2
      try simp [oa, ob]
      repeat' (first
        | (refine CallX.pure (haf) (by simp) (by simp) ?_; try simp [oa, ob])
        | (refine CallK.intro (haf) (by simp) (by simp) ?_; try simp [oa, ob])
        | (refine CallG.intro (fun _ => haf) (by simp) (by simp) ?_; try simp [oa, ob])
        | (refine CallX.pure (rApply_c (el s a.rule.toNat) (applyM (el s b.rule.toNat) w b.place).1 (a.place + (el s b.rule.toNat).to.length) (hs.el oa) hw2) (by simp) (by simp) ?_; try simp [oa, ob])
        | (refine CallK.intro (rApply_c (el s a.rule.toNat) (applyM (el s b.rule.toNat) w b.place).1 (a.place + (el s b.rule.toNat).to.length) (hs.el oa) hw2) (by simp) (by simp) ?_; try simp [oa, ob])
        | (refine CallG.intro (fun _ => rApply_c (el s a.rule.toNat) (applyM (el s b.rule.toNat) w b.place).1 (a.place + (el s b.rule.toNat).to.length) (hs.el oa) hw2) (by simp) (by simp) ?_; try simp [oa, ob])
        | ((with_reducible refine PreK.intro ?_ ?_); (next => (first | omega | (intros; first | omega | (refine ⟨by omega, ?_⟩; repeat (first | assumption | constructor)) | assumption))); intro _; try simp [oa, ob])
        | fail)
      have h3 : ¬ 0 ≤ (el s b.rule.toNat).frm := by omega
      simp [lastsM, lastPlace, h1, h3]
  · simp at h1
    try simp [oa, ob]
    repeat' (first
      | (refine CallX.pure (haf) (by simp) (by simp) ?_; try simp [oa, ob])
      | (refine CallK.intro (haf) (by simp) (by simp) ?_; try simp [oa, ob])
      | (refine CallG.intro (fun _ => haf) (by simp) (by simp) ?_; try simp [oa, ob])
      | (refine CallX.pure (rApply_c (el s a.rule.toNat) (applyM (el s b.rule.toNat) w b.place).1 a.place (hs.el oa) hw2) (by simp) (by simp) ?_; try simp [oa, ob])
      | (refine CallK.intro (rApply_c (el s a.rule.toNat) (applyM (el s b.rule.toNat) w b.place).1 a.place (hs.el oa) hw2) (by simp) (by simp) ?_; try simp [oa, ob])
      | (refine CallG.intro (fun _ => rApply_c (el s a.rule.toNat) (applyM (el s b.rule.toNat) w b.place).1 a.place (hs.el oa) hw2) (by simp) (by simp) ?_; try simp [oa, ob])
      | ((with_reducible refine PreK.intro ?_ ?_); (next => (first | omega | (intros; first | omega | (refine ⟨by omega, ?_⟩; repeat (first | assumption | constructor)) | assumption))); intro _; try simp [oa, ob])
      | fail)
    have h3 : ¬ b.place < a.place := by omega
    simp [lastsM, lastPlace, h3]
theorem rpro_c (s : List Rule) (w : List Int) (g : Int) (a b : Step) (hs : Sys.small s) (hw : w.length ≤ 1000) (ha : stepOK s a) (hb : stepOK s b) :
    CallP Try.prog 189 [rulesV s, ints w, iv g, stepV a, stepV b] (bv (proM w g (el s a.rule.toNat) a (el s b.rule.toNat) b)) := by
  refine C189 (by simp) ?_
  have oa : a.rule.toNat < s.length := by have := ha.1; have := ha.2.1; omega
  have ob : b.rule.toNat < s.length := by have := hb.1; have := hb.2.1; omega
  obtain ⟨a1, a2, a3, a4⟩ := ha
  obtain ⟨b1, b2, b3, b4⟩ := hb
  simp [A189]
  refine CondK.intro (fun h1 => ?_) (fun h1 => ?_)
  · simp at h1
    subst h1
    try simp [oa, ob]
    repeat' (first
      | ((with_reducible refine PreK.intro ?_ ?_); (next => (first | omega | (intros; first | omega | (refine ⟨by omega, ?_⟩; repeat (first | assumption | constructor)) | assumption))); intro _; try simp [oa, ob])
      | fail)
    refine CallK.intro (by simpa using rIsSpecial_c (el s a.rule.toNat) (el s b.rule.toNat) (hs.el oa) (hs.el ob)) (by simp) (by simp) ?_
    try simp 
    try simp [oa, ob]
    repeat' (first
      | ((with_reducible refine PreK.intro ?_ ?_); (next => (first | omega | (intros; first | omega | (refine ⟨by omega, ?_⟩; repeat (first | assumption | constructor)) | assumption))); intro _; try simp [oa, ob])
      | fail)
    refine CallK.intro (by simpa using rIsSpecial_c (el s b.rule.toNat) (el s a.rule.toNat) (hs.el ob) (hs.el oa)) (by simp) (by simp) ?_
    try simp 
    try simp 
    repeat' (first
      | ((with_reducible refine PreK.intro ?_ ?_); (next => (first | omega | (intros; first | omega | (refine ⟨by omega, ?_⟩; repeat (first | assumption | constructor)) | assumption))); intro _; try simp )
      | fail)
    simp [proM, Bool.and_assoc]
  · simp at h1
    try simp 
    refine CondK.intro (fun h2 => ?_) (fun h2 => ?_)
    · simp at h2
      subst h2
      try simp 
      repeat' (first
        | (refine CallX.pure (rlasts_c s w a b hs hw ⟨a1, a2, a3, a4⟩ ⟨b1, b2, b3, b4⟩) (by simp) (by simp) ?_; try simp )
        | (refine CallK.intro (rlasts_c s w a b hs hw ⟨a1, a2, a3, a4⟩ ⟨b1, b2, b3, b4⟩) (by simp) (by simp) ?_; try simp )
        | (refine CallG.intro (fun _ => rlasts_c s w a b hs hw ⟨a1, a2, a3, a4⟩ ⟨b1, b2, b3, b4⟩) (by simp) (by simp) ?_; try simp )
        | (refine CallX.pure (rlasts_c s w b a hs hw ⟨b1, b2, b3, b4⟩ ⟨a1, a2, a3, a4⟩) (by simp) (by simp) ?_; try simp )
        | (refine CallK.intro (rlasts_c s w b a hs hw ⟨b1, b2, b3, b4⟩ ⟨a1, a2, a3, a4⟩) (by simp) (by simp) ?_; try simp )
        | (refine CallG.intro (fun _ => rlasts_c s w b a hs hw ⟨b1, b2, b3, b4⟩ ⟨a1, a2, a3, a4⟩) (by simp) (by simp) ?_; try simp )
        | ((with_reducible refine PreK.intro ?_ ?_); (next => (first | omega | (intros; first | omega | (refine ⟨by omega, ?_⟩; repeat (first | assumption | constructor)) | assumption))); intro _; try simp )
        | fail)
      simp [proM]
    · simp at h2
      try simp 
      refine CondK.intro (fun h3 => ?_) (fun h3 => ?_)
      · simp at h3
        subst h3
        try simp 
        repeat' (first
          | ((with_reducible refine PreK.intro ?_ ?_); (next => (first | omega | (intros; first | omega | (refine ⟨by omega, ?_⟩; repeat (first | assumption | constructor)) | assumption))); intro _; try simp )
          | fail)
        simp [proM]
      · simp at h3
        try simp 
        repeat' (first
          | ((with_reducible refine PreK.intro ?_ ?_); (next => (first | omega | (intros; first | omega | (refine ⟨by omega, ?_⟩; repeat (first | assumption | constructor)) | assumption))); intro _; try simp )
          | fail)
        simp [proM, h1, h2, h3]
theorem rdecide_c (s : List Rule) (w : List Int) (g : Int) (a b : Step) (hs : Sys.small s) (hw : w.length ≤ 1000) (ha : stepOK s a) (hb : stepOK s b) :
    CallP Try.prog 126 [rulesV s, ints w, iv g, stepV a, stepV b] (iv (decideM w g (el s a.rule.toNat) a (el s b.rule.toNat) b)) := by
  refine C126 (by simp) ?_
  simp [A126]
  try simp 
  repeat' (first
    | (refine CallX.pure (rpro_c s w g a b hs hw ha hb) (by simp) (by simp) ?_; try simp )
    | (refine CallK.intro (rpro_c s w g a b hs hw ha hb) (by simp) (by simp) ?_; try simp )
    | (refine CallG.intro (fun _ => rpro_c s w g a b hs hw ha hb) (by simp) (by simp) ?_; try simp )
    | ((with_reducible refine PreK.intro ?_ ?_); (next => (first | omega | (intros; first | omega | (refine ⟨by omega, ?_⟩; repeat (first | assumption | constructor)) | assumption))); intro _; try simp )
    | fail)
  refine CondK.intro (fun h1 => ?_) (fun h1 => ?_)
  · simp [decideM, h1]
  · try simp at h1
    try simp 
    repeat' (first
      | (refine CallX.pure (rpro_c s w g b a hs hw hb ha) (by simp) (by simp) ?_; try simp )
      | (refine CallK.intro (rpro_c s w g b a hs hw hb ha) (by simp) (by simp) ?_; try simp )
      | (refine CallG.intro (fun _ => rpro_c s w g b a hs hw hb ha) (by simp) (by simp) ?_; try simp )
      | ((with_reducible refine PreK.intro ?_ ?_); (next => (first | omega | (intros; first | omega | (refine ⟨by omega, ?_⟩; repeat (first | assumption | constructor)) | assumption))); intro _; try simp )
      | fail)
    refine CondK.intro (fun h2 => ?_) (fun h2 => ?_)
    · simp [decideM, h1, h2]
    · try simp at h2
      simp [decideM, h1, h2]
theorem rbeats_c (s : List Rule) (w gs : List Int) (a b : Step) (hs : Sys.small s) (hw : w.length ≤ 1000) (hg : gOK gs) (hgl : gs.length ≤ 1000) (ha : stepOK s a) (hb : stepOK s b) :
    CallP Try.prog 124 [rulesV s, ints w, ints gs, stepV a, stepV b] (iv (beatsS s w gs a b)) := by
  refine C124 (by simp) ?_
  generalize hR : beatsS s w gs a b = R
  unfold beatsS at hR
  simp [A124]
  refine LoopK.by (fun i : Nat => ⟨[(11, iv i), (0, rulesV s), (1, ints w), (2, ints gs), (8, .pt 8 1 0 0), (9, .pt 9 1 0 0)], [(8, some ⟨2, [stepV a], 1, true⟩), (9, some ⟨2, [stepV b], 1, true⟩)]⟩) (fun i => gs.length - i)
    (fun i => i ≤ gs.length ∧ beatsM w (gs.drop i) (el s a.rule.toNat) a (el s b.rule.toNat) b = R) 0 (by simpa using hR) (by simp) ?_
  intro i Q' ⟨hi, hc⟩ hq he hr
  try simp 
  refine CondK.intro (fun h1 => ?_) (fun h1 => ?_)
  · simp at h1
    rw [drop_cons gs i h1, beatsM] at hc
    have hgi := hg (el gs i) (by rw [el_eq gs i h1]; exact List.getElem_mem h1)
    have hd := decideM_cases w (el gs i) (el s a.rule.toNat) a (el s b.rule.toNat) b
    simp [h1]
    try simp [h1]
    repeat' (first
      | (refine CallX.pure (rdecide_c s w (el gs i) a b hs hw ha hb) (by simp) (by simp) ?_; try simp [h1])
      | (refine CallK.intro (rdecide_c s w (el gs i) a b hs hw ha hb) (by simp) (by simp) ?_; try simp [h1])
      | (refine CallG.intro (fun _ => rdecide_c s w (el gs i) a b hs hw ha hb) (by simp) (by simp) ?_; try simp [h1])
      | ((with_reducible refine PreK.intro ?_ ?_); (next => (first | omega | (intros; first | omega | (refine ⟨by omega, ?_⟩; repeat (first | assumption | constructor)) | assumption))); intro _; try simp [h1])
      | fail)
    refine CondK.intro (fun h2 => ?_) (fun h2 => ?_)
    · simp at h2
      simp [h2] at hc
      simp [h1]
      refine PreK.intro (by rcases hd with e | e | e <;> rw [e] <;> omega) fun _ => ?_
      try simp 
      apply hr
      simp [hc]
    · simp at h2
      simp [h2] at hc
      try simp 
      repeat' (first
        | ((with_reducible refine PreK.intro ?_ ?_); (next => (first | omega | (intros; first | omega | (refine ⟨by omega, ?_⟩; repeat (first | assumption | constructor)) | assumption))); intro _; try simp )
        | fail)
      exact hq (i + 1) _ ⟨by omega, hc⟩ (by omega) (by simp)
  · simp at h1
    rw [List.drop_eq_nil_of_le (by omega)] at hc
    simp [beatsM] at hc
    try simp 
    apply he
    simp [hc]
end Go.Proofs.Ytaooenmkofjafaa
end

section
/- Contracts: the reference's winner and derivation. -/
namespace Go.Proofs.Ytaooenmkofjafaa
open Go.Abs Go
set_option maxRecDepth 20000
set_option maxHeartbeats 2000000
attribute [local irreducible] PreK CondK CallK CallG CallX LoopK
attribute [local simp] avsEq avEq akind teq vkind vEq

theorem movesR_sorted (r : Rule) (w : List Int) (k : Nat) : ∀ (n i : Nat), (movesR r w k i n).Pairwise (fun a b => a.step ≠ b.step) ∧ ∀ m ∈ movesR r w k i n, m.step.rule = k ∧ (i : Int) ≤ m.step.place
  | 0, i => by simp [movesR]
  | n + 1, i => by
    obtain ⟨h1, h2⟩ := movesR_sorted r w k n (i + 1)
    rw [movesR]
    unfold moveAt
    split
    · refine ⟨?_, ?_⟩
      · simp only [List.cons_append, List.nil_append, List.pairwise_cons]
        refine ⟨fun m hm e => ?_, h1⟩
        have := (h2 m hm).2
        rw [← e] at this
        simp at this
        omega
      · intro m hm
        simp only [List.cons_append, List.nil_append, List.mem_cons] at hm
        rcases hm with rfl | hm
        · simp
        · have := h2 m hm; exact ⟨this.1, by have := this.2; omega⟩
    · refine ⟨by simpa using h1, fun m hm => ?_⟩
      have := h2 m (by simpa using hm)
      exact ⟨this.1, by have := this.2; omega⟩
theorem movesF_sorted (w : List Int) : ∀ (s : List Rule) (k : Nat), (movesF w k s).Pairwise (fun a b => a.step ≠ b.step) ∧ ∀ m ∈ movesF w k s, (k : Int) ≤ m.step.rule
  | [], k => by simp [movesF]
  | r :: s, k => by
    obtain ⟨h1, h2⟩ := movesF_sorted w s (k + 1)
    obtain ⟨h3, h4⟩ := movesR_sorted r w k (w.length + 1) 0
    rw [movesF]
    refine ⟨List.pairwise_append.2 ⟨h3, h1, fun a ha b hb e => ?_⟩, fun m hm => ?_⟩
    · have e1 := (h4 a ha).1
      have e2 := h2 b hb
      rw [← e, e1] at e2
      omega
    · rcases List.mem_append.1 hm with hm | hm
      · rw [(h4 m hm).1]; omega
      · have := h2 m hm; omega
theorem stepsM_nodup (s : List Rule) (w : List Int) : (stepsM s w).Nodup := by
  unfold stepsM
  split
  · exact List.Pairwise.nil
  · unfold List.Nodup movesM
    rw [List.pairwise_map]
    exact (movesF_sorted w s 0).1
theorem nodup_el {l : List Step} (h : l.Nodup) {i j : Nat} (hi : i < l.length) (hj : j < l.length) : (el l j = el l i) ↔ j = i := by
  rw [el_eq l i hi, el_eq l j hj]
  have hp := List.pairwise_iff_getElem.1 h
  constructor
  · intro e
    rcases Nat.lt_trichotomy j i with h1 | h1 | h1
    · exact absurd e (hp j i hj hi h1)
    · exact h1
    · exact absurd e.symm (hp i j hi hj h1)
  · rintro rfl; rfl
theorem rbest_c (s : List Rule) (w gs : List Int) (l : List Step) (hs : Sys.small s) (hw : w.length ≤ 1000) (hg : gOK gs) (hgl : gs.length ≤ 1000) (hl : l.length ≤ 100) (hok : ∀ y ∈ l, stepOK s y) (hnd : l.Nodup) :
    CallP Try.prog 116 [rulesV s, ints w, ints gs, stepsV l] (iv (idxG (topOf s w gs l) 0 l)) := by
  refine C116 (by simp) ?_
  generalize hR : idxG (topOf s w gs l) 0 l = R
  simp [A116]
  refine LoopK.by (fun i : Nat => ⟨[(9, iv i), (0, rulesV s), (1, ints w), (2, ints gs), (3, stepsV l)], []⟩) (fun i => l.length - i)
    (fun i => i ≤ l.length ∧ idxG (topOf s w gs l) i (l.drop i) = R) 0 (by simpa using hR) (by simp) ?_
  intro i Q' ⟨hi, hc⟩ hq he hr
  try simp 
  refine CondK.intro (fun h1 => ?_) (fun h1 => ?_)
  · simp at h1
    have hoi := hok (el l i) (by rw [el_eq l i h1]; exact List.getElem_mem h1)
    rw [drop_cons l i h1] at hc
    try simp 
    refine LoopK.by (ι := Nat × Bool) (fun j => ⟨[(11, iv j.1), (10, bv j.2), (9, iv i), (0, rulesV s), (1, ints w), (2, ints gs), (3, stepsV l)], []⟩) (fun j => l.length - j.1)
      (fun j => j.1 ≤ l.length ∧ (j.2 && topOf s w gs (l.drop j.1) (el l i)) = topOf s w gs l (el l i)) (0, true) (by simp) (by simp) ?_
    intro ⟨j, b⟩ Q'' ⟨hj, hb⟩ hq' he' hr'
    dsimp only at hj hb
    try simp 
    repeat' (first
      | ((with_reducible refine PreK.intro ?_ ?_); (next => (first | omega | (intros; first | omega | (refine ⟨by omega, ?_⟩; repeat (first | assumption | constructor)) | assumption))); intro _; try simp )
      | fail)
    refine CondK.intro (fun h2 => ?_) (fun h2 => ?_)
    · simp at h2
      obtain ⟨h2, rfl⟩ := h2
      have hoj := hok (el l j) (by rw [el_eq l j h2]; exact List.getElem_mem h2)
      rw [topOf_drop s w gs _ l j h2, Bool.true_and] at hb
      have hij := nodup_el hnd h1 h2
      have hint : decide ((j : Int) = (i : Int)) = decide (el l j = el l i) := by
        rw [Bool.eq_iff_iff]; simp only [decide_eq_true_eq, hij]; omega
      have hbt := rbeats_c s w gs (el l i) (el l j) hs hw hg hgl hoi hoj
      try simp [h1, h2]
      repeat' (first
        | (refine CallX.pure (hbt) (by simp) (by simp) ?_; try simp [h1, h2])
        | (refine CallK.intro (hbt) (by simp) (by simp) ?_; try simp [h1, h2])
        | (refine CallG.intro (fun _ => hbt) (by simp) (by simp) ?_; try simp [h1, h2])
        | ((with_reducible refine PreK.intro ?_ ?_); (next => (first | omega | (intros; first | omega | (refine ⟨by omega, ?_⟩; repeat (first | assumption | constructor)) | assumption))); intro _; try simp [h1, h2])
        | fail)
      rw [hint]
      exact hq' (j + 1, decide (el l j = el l i) || decide (0 < beatsS s w gs (el l i) (el l j))) _ ⟨by dsimp only; omega, hb⟩ (by dsimp only; omega) (by simp)
    · have hbe : topOf s w gs l (el l i) = b := by
        by_cases h3 : j < l.length
        · have h4 : b = false := by simpa [h3] using h2
          subst h4
          simpa using hb.symm
        · rw [List.drop_eq_nil_of_le (by omega)] at hb
          have : topOf s w gs [] (el l i) = true := rfl
          rw [this, Bool.and_true] at hb
          exact hb.symm
      simp only [idxG, hbe] at hc
      try simp 
      apply he'
      try simp 
      refine CondK.intro (fun h5 => ?_) (fun h5 => ?_)
      · rw [if_pos h5] at hc
        try simp 
        repeat' (first
          | ((with_reducible refine PreK.intro ?_ ?_); (next => (first | omega | (intros; first | omega | (refine ⟨by omega, ?_⟩; repeat (first | assumption | constructor)) | assumption))); intro _; try simp )
          | fail)
        apply hr
        simp [hc]
      · rw [if_neg (by simp [h5])] at hc
        try simp 
        repeat' (first
          | ((with_reducible refine PreK.intro ?_ ?_); (next => (first | omega | (intros; first | omega | (refine ⟨by omega, ?_⟩; repeat (first | assumption | constructor)) | assumption))); intro _; try simp )
          | fail)
        exact hq (i + 1) _ ⟨by omega, hc⟩ (by omega) (by simp)
  · simp at h1
    rw [List.drop_eq_nil_of_le (by omega)] at hc
    simp [idxG] at hc
    try simp 
    apply he
    simp [hc]
theorem find_first {l : List Step} (h : l.Nodup) {i : Nat} (hi : i < l.length) (h1 : 1 < l.length) : l.find? (fun b => decide (b ≠ el l i)) = some (el l (if i = 0 then 1 else 0)) := by
  match l, h1 with
  | x :: y :: r, _ =>
    have hxy : x ≠ y := by simp only [List.nodup_cons, List.mem_cons, not_or] at h; exact h.1.1
    cases i with
    | zero => simp [el, List.find?, Ne.symm hxy]
    | succ i =>
      have hne : x ≠ el (x :: y :: r) (i + 1) := by
        intro e
        have := (nodup_el h (i := i + 1) (j := 0) hi (by simp)).1 (by simpa [el] using e)
        omega
      simp [List.find?, hne, el]
      simp [el] at hne
      simp [hne]
theorem winner_c (s : List Rule) (w gs : List Int) (hs : Sys.small s) (hw : w.length ≤ 1000) (hg : gOK gs) (hgl : gs.length ≤ 1000) :
    CallP Try.prog 112 [rulesV s, ints w, ints gs] (.tup [choiceV ((choiceM s w gs).getD ⟨0, 0, 0⟩), bv (choiceM s w gs).isSome]) := by
  refine C112 (by simp) ?_
  have hcd := rcandidates_c s w hs hw
  have hok : ∀ x ∈ stepsM s w, stepOK s x := stepsM_ok
  have hlen : (stepsM s w).length ≤ 54 := stepsM_len
  have hnd := stepsM_nodup s w
  generalize hR : choiceM s w gs = R
  unfold choiceM at hR
  simp [A112]
  generalize stepsM s w = l at hcd hok hlen hnd hR
  try simp 
  repeat' (first
    | (refine CallX.pure (hcd) (by simp) (by simp) ?_; try simp )
    | (refine CallK.intro (hcd) (by simp) (by simp) ?_; try simp )
    | (refine CallG.intro (fun _ => hcd) (by simp) (by simp) ?_; try simp )
    | ((with_reducible refine PreK.intro ?_ ?_); (next => (first | omega | (intros; first | omega | (refine ⟨by omega, ?_⟩; repeat (first | assumption | constructor)) | assumption))); intro _; try simp )
    | fail)
  cases l with
  | nil =>
    dsimp only at hR
    subst hR
    try simp 
    repeat' (first
      | ((with_reducible refine PreK.intro ?_ ?_); (next => (first | omega | (intros; first | omega | (refine ⟨by omega, ?_⟩; repeat (first | assumption | constructor)) | assumption))); intro _; try simp )
      | fail)
    refine CondK.intro (fun h1 => ?_) (fun h1 => ?_)
    · try simp 
      repeat' (first
        | ((with_reducible refine PreK.intro ?_ ?_); (next => (first | omega | (intros; first | omega | (refine ⟨by omega, ?_⟩; repeat (first | assumption | constructor)) | assumption))); intro _; try simp )
        | fail)
    · simp at h1
  | cons x xs =>
    dsimp only at hR
    generalize hl2 : x :: xs = l at hcd hok hlen hnd hR
    have hlx : l.length = xs.length + 1 := by rw [← hl2]; simp
    have hbest := rbest_c s w gs l hs hw hg hgl (by omega) hok hnd
    refine CondK.intro (fun h1 => ?_) (fun h1 => ?_)
    · exfalso; simp at h1; rw [h1] at hlx; simp at hlx
    · try simp 
      repeat' (first
        | (refine CallX.pure (hbest) (by simp) (by simp) ?_; try simp )
        | (refine CallK.intro (hbest) (by simp) (by simp) ?_; try simp )
        | (refine CallG.intro (fun _ => hbest) (by simp) (by simp) ?_; try simp )
        | ((with_reducible refine PreK.intro ?_ ?_); (next => (first | omega | (intros; first | omega | (refine ⟨by omega, ?_⟩; repeat (first | assumption | constructor)) | assumption))); intro _; try simp )
        | fail)
      unfold bestM at hR
      cases hf : l.find? (topOf s w gs l) with
      | none =>
        have hno : idxG (topOf s w gs l) 0 l = -1 := idxG_none _ l 0 (fun y hy => by simpa using List.find?_eq_none.1 hf y hy)
        rw [hf] at hR
        dsimp only at hR
        subst hR
        rw [hno]
        have e1 : (((l.length : Int)) - 1).toNat = xs.length := by omega
        have e2 : xs.length < l.length := by omega
        refine CondK.intro (fun h2 => ?_) (fun h2 => ?_)
        · try simp [e1, e2]
          repeat' (first
            | ((with_reducible refine PreK.intro ?_ ?_); (next => (first | omega | (intros; first | omega | (refine ⟨by omega, ?_⟩; repeat (first | assumption | constructor)) | assumption))); intro _; try simp [e1, e2])
            | fail)
        · simp at h2
      | some a =>
        obtain ⟨i, hi1, hi2, hi3⟩ := idxG_find _ l 0 a hf
        simp at hi2
        rw [hf] at hR
        dsimp only at hR
        rw [hi2]
        refine CondK.intro (fun h2 => ?_) (fun h2 => ?_)
        · simp at h2; omega
        · subst hi3
          have hoi := hok (el l i) (by rw [el_eq l i hi1]; exact List.getElem_mem hi1)
          try simp [hi1]
          repeat' (first
            | ((with_reducible refine PreK.intro ?_ ?_); (next => (first | omega | (intros; first | omega | (refine ⟨by omega, ?_⟩; repeat (first | assumption | constructor)) | assumption))); intro _; try simp [hi1])
            | fail)
          refine CondK.intro (fun h3 => ?_) (fun h3 => ?_)
          · have h4 : 1 < l.length := by simp at h3; omega
            rw [find_first hnd hi1 h4] at hR
            dsimp only at hR
            try simp 
            refine CondK.intro (fun h5 => ?_) (fun h5 => ?_)
            · have hi0 : i = 0 := by simp at h5; omega
              subst hi0
              simp only [if_true] at hR
              have ho1 := hok (el l 1) (by rw [el_eq l 1 h4]; exact List.getElem_mem h4)
              have hbt := rbeats_c s w gs (el l 0) (el l 1) hs hw hg hgl hoi ho1
              subst hR
              try simp [hi1, h4]
              repeat' (first
                | (refine CallX.pure (hbt) (by simp) (by simp) ?_; try simp [hi1, h4])
                | (refine CallK.intro (hbt) (by simp) (by simp) ?_; try simp [hi1, h4])
                | (refine CallG.intro (fun _ => hbt) (by simp) (by simp) ?_; try simp [hi1, h4])
                | ((with_reducible refine PreK.intro ?_ ?_); (next => (first | omega | (intros; first | omega | (refine ⟨by omega, ?_⟩; repeat (first | assumption | constructor)) | assumption))); intro _; try simp [hi1, h4])
                | fail)
            · have hi0 : i ≠ 0 := by simp at h5; omega
              simp only [hi0, if_false] at hR
              have h0 : 0 < l.length := by omega
              have ho1 := hok (el l 0) (by rw [el_eq l 0 h0]; exact List.getElem_mem h0)
              have hbt := rbeats_c s w gs (el l i) (el l 0) hs hw hg hgl hoi ho1
              subst hR
              try simp [hi1, h0]
              repeat' (first
                | (refine CallX.pure (hbt) (by simp) (by simp) ?_; try simp [hi1, h0])
                | (refine CallK.intro (hbt) (by simp) (by simp) ?_; try simp [hi1, h0])
                | (refine CallG.intro (fun _ => hbt) (by simp) (by simp) ?_; try simp [hi1, h0])
                | ((with_reducible refine PreK.intro ?_ ?_); (next => (first | omega | (intros; first | omega | (refine ⟨by omega, ?_⟩; repeat (first | assumption | constructor)) | assumption))); intro _; try simp [hi1, h0])
                | fail)
          · have h4 : xs = [] := by simp at h3; exact List.eq_nil_of_length_eq_zero (by omega)
            have hi0 : i = 0 := by rw [h4] at hlx; simp at hlx; omega
            subst hi0
            have : l.find? (fun b => decide (b ≠ el l 0)) = none := by rw [← hl2, h4]; simp [el, List.find?]
            rw [this] at hR
            dsimp only at hR
            subst hR
            try simp 
            repeat' (first
              | ((with_reducible refine PreK.intro ?_ ?_); (next => (first | omega | (intros; first | omega | (refine ⟨by omega, ?_⟩; repeat (first | assumption | constructor)) | assumption))); intro _; try simp )
              | fail)
end Go.Proofs.Ytaooenmkofjafaa
end
