/- Part 5 of the proof: the value layer and the contracts of the functions that the statement reaches; proved without conditions beyond those each theorem states. -/
import Derived.Shelf.SlSortCmp.Whole1
import Derived.Shelf.SlSortCmp.NoneTotal
import Derived.Test.YtkhddecnllcaiaaGreatProg
import Derived.Test.YtkhddecnllcaiaaGreatV3
import Derived.Test.YtkhddecnllcaiaaGreatV4
set_option linter.unusedSimpArgs false
set_option linter.unusedVariables false

section
/- Functions of the cut as the value layer reads them. (written by gen.py) -/
set_option maxRecDepth 20000
namespace Go.Proofs.YtkhddecnllcaiaaGreat
open Go.Abs Go

def A32 : ACode :=
  (.seq (.reg [] [⟨some 4, (.assign (.const (.bool false))), 4, none⟩])
    (.seq (.seq (.reg [] [⟨some 6, (.move (.tmp 0)), 23, none⟩,
      ⟨some 7, (.call ⟨(.builtin .len), #[(.tmp 6)], #[23]⟩), 3, none⟩,
      ⟨some 8, (.move (.tmp 1)), 23, none⟩,
      ⟨some 9, (.call ⟨(.builtin .len), #[(.tmp 8)], #[23]⟩), 3, none⟩,
      ⟨some 10, (.binOp .neq 3 (.tmp 7) (.tmp 9) 3), 4, none⟩])
    (.cond (.tmp 10)
    (.seq (.reg [] [⟨some 4, (.assign (.const (.bool false))), 4, none⟩])
    .ret)
    .skip))
    (.seq (.seq (.reg [] [⟨some 5, (.assign (.const (.int .i64 0))), 3, none⟩])
    (.block 0 (.loop (.seq (.seq (.reg [] [⟨some 11, (.move (.tmp 5)), 3, none⟩,
      ⟨some 12, (.move (.tmp 0)), 23, none⟩,
      ⟨some 13, (.call ⟨(.builtin .len), #[(.tmp 12)], #[23]⟩), 3, none⟩,
      ⟨some 14, (.binOp .lss 3 (.tmp 11) (.tmp 13) 3), 4, none⟩])
    (.cond (.tmp 14)
    .skip
    (.exit 0)))
    (.seq (.block 1 (.seq (.draw [] [⟨some 17, (.move (.tmp 0)), 23, none⟩,
      ⟨some 18, (.move (.tmp 5)), 3, none⟩,
      ⟨some 19, (.indexAddr 23 (.tmp 17) (.tmp 18)), 0, none⟩,
      ⟨some 20, (.load 3 (.tmp 19)), 3, none⟩,
      ⟨some 21, (.move (.tmp 1)), 23, none⟩,
      ⟨some 22, (.move (.tmp 5)), 3, none⟩,
      ⟨some 23, (.indexAddr 23 (.tmp 21) (.tmp 22)), 0, none⟩,
      ⟨some 24, (.load 3 (.tmp 23)), 3, none⟩,
      ⟨some 25, (.binOp .neq 3 (.tmp 20) (.tmp 24) 3), 4, none⟩] [(0, 1), (0, 4), (1, 4), (2, 4), (3, 4), (0, 5), (1, 5), (2, 5), (3, 5), (4, 5), (0, 6), (1, 6), (2, 6), (3, 6), (0, 7), (1, 7), (2, 7), (3, 7)])
    (.cond (.tmp 25)
    (.seq (.reg [] [⟨some 4, (.assign (.const (.bool false))), 4, none⟩])
    .ret)
    .skip)))
    (.reg [] [⟨some 15, (.move (.tmp 5)), 3, none⟩,
      ⟨some 16, (.binOp .add 3 (.tmp 15) (.const (.int .i64 1)) 3), 3, none⟩,
      ⟨some 5, (.assign (.tmp 16)), 3, none⟩]))))))
    (.seq (.reg [] [⟨some 4, (.assign (.const (.bool true))), 4, none⟩])
    .ret))))
theorem C32 {args : List AV} {r : AV} (hn : args.length ≤ 26) (h : vc Tryz.prog T [] A32 (Fin T [(.tmp 4)] r) ⟨envOf 0 args, []⟩) : CallP Tryz.prog 32 args r :=
  callP_of tok mixed Tryz.func32 (by kernel_rfl) (by kernel_rfl) (by kernel_rfl : Tryz.f32.ntmps = 26) (by kernel_rfl : Tryz.f32.body.bind (strip 26 (fun _ => [])) = some A32) hn h
def A7 : ACode :=
  (.seq (.reg [] [⟨some 2, (.assign (.const (.bool false))), 4, none⟩])
    (.seq (.seq (.reg [] [⟨some 4, (.move (.tmp 0)), 22, none⟩,
      ⟨some 5, (.call ⟨(.builtin .len), #[(.tmp 4)], #[22]⟩), 3, none⟩,
      ⟨some 6, (.binOp .gtr 3 (.tmp 5) (.const (.int .i64 50)) 3), 4, none⟩])
    (.cond (.tmp 6)
    (.seq (.reg [] [⟨some 2, (.assign (.const (.bool true))), 4, none⟩])
    .ret)
    .skip))
    (.seq (.seq (.reg [] [⟨some 3, (.assign (.const (.int .i64 0))), 3, none⟩])
    (.block 0 (.loop (.seq (.seq (.reg [] [⟨some 7, (.move (.tmp 3)), 3, none⟩,
      ⟨some 8, (.move (.tmp 0)), 22, none⟩,
      ⟨some 9, (.call ⟨(.builtin .len), #[(.tmp 8)], #[22]⟩), 3, none⟩,
      ⟨some 10, (.binOp .lss 3 (.tmp 7) (.tmp 9) 3), 4, none⟩])
    (.cond (.tmp 10)
    .skip
    (.exit 0)))
    (.seq (.block 1 (.seq (.reg [] [⟨some 13, (.move (.tmp 0)), 22, none⟩,
      ⟨some 14, (.move (.tmp 3)), 3, none⟩,
      ⟨some 15, (.indexAddr 22 (.tmp 13) (.tmp 14)), 0, none⟩,
      ⟨some 16, (.load 46 (.tmp 15)), 46, none⟩,
      ⟨some 17, (.call ⟨(.value (.func 33)), #[(.tmp 16)], #[46]⟩), 4, none⟩])
    (.cond (.tmp 17)
    (.seq (.reg [] [⟨some 2, (.assign (.const (.bool true))), 4, none⟩])
    .ret)
    .skip)))
    (.reg [] [⟨some 11, (.move (.tmp 3)), 3, none⟩,
      ⟨some 12, (.binOp .add 3 (.tmp 11) (.const (.int .i64 1)) 3), 3, none⟩,
      ⟨some 3, (.assign (.tmp 12)), 3, none⟩]))))))
    (.seq (.reg [] [⟨some 2, (.assign (.const (.bool false))), 4, none⟩])
    .ret))))
theorem C7 {args : List AV} {r : AV} (hn : args.length ≤ 18) (h : vc Tryz.prog T [] A7 (Fin T [(.tmp 2)] r) ⟨envOf 0 args, []⟩) : CallP Tryz.prog 7 args r :=
  callP_of tok mixed Tryz.func7 (by kernel_rfl) (by kernel_rfl) (by kernel_rfl : Tryz.f7.ntmps = 18) (by kernel_rfl : Tryz.f7.body.bind (strip 18 (fun _ => [])) = some A7) hn h
def A8 : ACode :=
  (.seq (.reg [] [⟨some 2, (.assign (.const (.bool false))), 4, none⟩])
    (.seq (.reg [] [⟨some 3, (.move (.tmp 0)), 23, none⟩,
      ⟨some 4, (.call ⟨(.builtin .len), #[(.tmp 3)], #[23]⟩), 3, none⟩,
      ⟨some 5, (.binOp .gtr 3 (.tmp 4) (.const (.int .i64 100)) 3), 4, none⟩,
      ⟨some 2, (.assign (.tmp 5)), 4, none⟩])
    .ret))
theorem C8 {args : List AV} {r : AV} (hn : args.length ≤ 6) (h : vc Tryz.prog T [] A8 (Fin T [(.tmp 2)] r) ⟨envOf 0 args, []⟩) : CallP Tryz.prog 8 args r :=
  callP_of tok mixed Tryz.func8 (by kernel_rfl) (by kernel_rfl) (by kernel_rfl : Tryz.f8.ntmps = 6) (by kernel_rfl : Tryz.f8.body.bind (strip 6 (fun _ => [])) = some A8) hn h
def A9 : ACode :=
  (.seq (.reg [] [⟨some 0, (.assign (.const (.bool false))), 4, none⟩])
    (.seq (.reg [] [⟨some 7, (.buildSlice 23 2 #[(0, (.const (.int .i64 1))), (1, (.const (.int .i64 1)))]), 23, none⟩,
      ⟨some 8, (.build 46 #[(0, (.const (.int .i64 0))), (1, (.tmp 7))]), 46, none⟩,
      ⟨some 9, (.build 46 #[(0, (.const (.int .i64 1)))]), 46, none⟩,
      ⟨some 10, (.buildSlice 22 2 #[(0, (.tmp 8)), (1, (.tmp 9))]), 22, none⟩,
      ⟨some 11, (.call ⟨(.value (.func 34)), #[(.tmp 10)], #[22]⟩), 42, none⟩,
      ⟨some 6, (.move (.tmp 11)), 42, none⟩,
      ⟨some 12, (.extract (.tmp 6) 0), 23, none⟩,
      ⟨some 13, (.extract (.tmp 6) 1), 4, none⟩,
      ⟨some 14, (.extract (.tmp 6) 2), 28, none⟩,
      ⟨some 1, (.assign (.tmp 12)), 23, none⟩,
      ⟨some 2, (.assign (.tmp 13)), 4, none⟩,
      ⟨some 3, (.assign (.tmp 14)), 28, none⟩])
    (.seq (.reg [] [⟨some 16, (.buildSlice 23 1 #[(0, (.const (.int .i64 1)))]), 23, none⟩,
      ⟨some 17, (.build 46 #[(0, (.const (.int .i64 0))), (1, (.tmp 16))]), 46, none⟩,
      ⟨some 18, (.buildSlice 23 1 #[(0, (.const (.int .i64 2)))]), 23, none⟩,
      ⟨some 19, (.build 46 #[(0, (.const (.int .i64 0))), (1, (.tmp 18))]), 46, none⟩,
      ⟨some 20, (.buildSlice 22 2 #[(0, (.tmp 17)), (1, (.tmp 19))]), 22, none⟩,
      ⟨some 21, (.buildSlice 23 1 #[(0, (.const (.int .i64 0)))]), 23, none⟩,
      ⟨some 22, (.call ⟨(.value (.func 10)), #[(.tmp 20), (.tmp 21)], #[22, 23]⟩), 29, none⟩,
      ⟨some 15, (.move (.tmp 22)), 29, none⟩,
      ⟨some 23, (.extract (.tmp 15) 0), 27, none⟩,
      ⟨some 24, (.extract (.tmp 15) 1), 28, none⟩,
      ⟨some 4, (.assign (.tmp 23)), 27, none⟩,
      ⟨some 5, (.assign (.tmp 24)), 28, none⟩])
    (.seq (.reg [] [⟨some 25, (.move (.tmp 3)), 28, none⟩,
      ⟨some 26, (.binOp .eql 28 (.tmp 25) (.const (.int .i64 0)) 28), 4, none⟩,
      ⟨some 27, (.move (.tmp 26)), 4, none⟩,
      ⟨some 28, (.move (.tmp 2)), 4, some (27, true)⟩,
      ⟨some 29, (.pick (.tmp 27) (.tmp 28) (.const (.bool false))), 4, none⟩,
      ⟨some 30, (.move (.tmp 29)), 4, none⟩,
      ⟨some 31, (.move (.tmp 1)), 23, some (30, true)⟩,
      ⟨some 32, (.buildSlice 23 6 #[(0, (.const (.int .i64 3))), (1, (.const (.int .i64 1))), (2, (.const (.int .i64 0))), (3, (.const (.int .i64 0))), (4, (.const (.int .i64 0))), (5, (.const (.int .i64 0)))]), 23, some (30, true)⟩,
      ⟨some 33, (.call ⟨(.value (.func 32)), #[(.tmp 31), (.tmp 32)], #[23, 23]⟩), 4, some (30, true)⟩,
      ⟨some 34, (.pick (.tmp 30) (.tmp 33) (.const (.bool false))), 4, none⟩,
      ⟨some 35, (.move (.tmp 34)), 4, none⟩,
      ⟨some 36, (.move (.tmp 5)), 28, some (35, true)⟩,
      ⟨some 37, (.binOp .eql 28 (.tmp 36) (.const (.int .i64 0)) 28), 4, some (35, true)⟩,
      ⟨some 38, (.pick (.tmp 35) (.tmp 37) (.const (.bool false))), 4, none⟩,
      ⟨some 39, (.move (.tmp 38)), 4, none⟩,
      ⟨some 40, (.move (.tmp 4)), 27, some (39, true)⟩,
      ⟨some 41, (.buildSlice 23 1 #[(0, (.const (.int .i64 1)))]), 23, some (39, true)⟩,
      ⟨some 42, (.buildSlice 23 1 #[(0, (.const (.int .i64 2)))]), 23, some (39, true)⟩,
      ⟨some 43, (.buildSlice 27 2 #[(0, (.tmp 41)), (1, (.tmp 42))]), 27, some (39, true)⟩,
      ⟨some 44, (.call ⟨(.value (.func 12)), #[(.tmp 40), (.tmp 43)], #[27, 27]⟩), 4, some (39, true)⟩,
      ⟨some 45, (.pick (.tmp 39) (.tmp 44) (.const (.bool false))), 4, none⟩,
      ⟨some 0, (.assign (.tmp 45)), 4, none⟩])
    .ret))))
theorem C9 {args : List AV} {r : AV} (hn : args.length ≤ 46) (h : vc Tryz.prog T [] A9 (Fin T [(.tmp 0)] r) ⟨envOf 0 args, []⟩) : CallP Tryz.prog 9 args r :=
  callP_of tok mixed Tryz.func9 (by kernel_rfl) (by kernel_rfl) (by kernel_rfl : Tryz.f9.ntmps = 46) (by kernel_rfl : Tryz.f9.body.bind (strip 46 (fun _ => [])) = some A9) hn h
def A13 : ACode :=
  (.seq (.reg [] [⟨some 4, (.assign (.const (.slice none 0 0))), 27, none⟩,
      ⟨some 5, (.assign (.const (.int .i64 0))), 28, none⟩])
    (.seq (.reg [] [⟨some 12, (.move (.tmp 0)), 22, none⟩,
      ⟨some 13, (.move (.tmp 1)), 23, none⟩,
      ⟨some 14, (.call ⟨(.value (.func 35)), #[(.tmp 12), (.tmp 13)], #[22, 23]⟩), 49, none⟩,
      ⟨some 11, (.move (.tmp 14)), 49, none⟩,
      ⟨some 15, (.extract (.tmp 11) 0), 48, none⟩,
      ⟨some 16, (.extract (.tmp 11) 1), 28, none⟩,
      ⟨some 6, (.assign (.tmp 15)), 48, none⟩,
      ⟨some 7, (.assign (.tmp 16)), 28, none⟩])
    (.seq (.seq (.reg [] [⟨some 17, (.move (.tmp 7)), 28, none⟩,
      ⟨some 18, (.binOp .neq 28 (.tmp 17) (.const (.int .i64 0)) 28), 4, none⟩])
    (.cond (.tmp 18)
    (.seq (.reg [] [⟨some 19, (.move (.tmp 7)), 28, none⟩,
      ⟨some 4, (.assign (.const (.slice none 0 0))), 27, none⟩,
      ⟨some 5, (.assign (.tmp 19)), 28, none⟩])
    .ret)
    .skip))
    (.seq (.reg [] [⟨some 8, (.assign (.const (.slice none 0 0))), 27, none⟩])
    (.seq (.seq (.reg [] [⟨some 20, (.move (.tmp 6)), 48, none⟩,
      ⟨some 21, (.nilCheck (.tmp 20)), 0, none⟩,
      ⟨some 22, (.fieldAddr 60 (.tmp 21) 1), 0, none⟩,
      ⟨some 23, (.load 27 (.tmp 22)), 27, none⟩,
      ⟨some 24, (.call ⟨(.builtin .len), #[(.tmp 23)], #[27]⟩), 3, none⟩,
      ⟨some 25, (.move (.const (.int .i64 0))), 3, none⟩])
    (.block 0 (.loop (.seq (.reg [] [⟨some 26, (.binOp .lss 3 (.tmp 25) (.tmp 24) 3), 0, none⟩])
    (.seq (.cond (.tmp 26)
    .skip
    (.exit 0))
    (.seq (.block 1 (.seq (.reg [] [⟨some 27, (.indexAddr 27 (.tmp 23) (.tmp 25)), 0, none⟩,
      ⟨some 28, (.load 23 (.tmp 27)), 23, none⟩,
      ⟨some 10, (.assign (.tmp 28)), 23, none⟩])
    (.reg [] [⟨some 29, (.move (.tmp 8)), 27, none⟩,
      ⟨some 30, (.move (.tmp 10)), 23, none⟩,
      ⟨some 31, (.call ⟨(.value (.func 39)), #[(.tmp 30)], #[23]⟩), 23, none⟩,
      ⟨some 32, (.buildSlice 27 1 #[(0, (.tmp 31))]), 27, none⟩,
      ⟨some 33, (.call ⟨(.builtin .append), #[(.tmp 29), (.tmp 32)], #[27, 27]⟩), 27, none⟩,
      ⟨some 8, (.assign (.tmp 33)), 27, none⟩])))
    (.reg [] [⟨some 34, (.binOp .add 3 (.tmp 25) (.const (.int .i64 1)) 3), 3, none⟩,
      ⟨some 25, (.move (.tmp 34)), 3, none⟩])))))))
    (.seq (.reg [] [⟨some 35, (.move (.tmp 8)), 27, none⟩,
      ⟨some 36, (.call ⟨(.value (.func 40)), #[(.tmp 35)], #[27]⟩), 27, none⟩,
      ⟨some 4, (.assign (.tmp 36)), 27, none⟩,
      ⟨some 5, (.assign (.const (.int .i64 0))), 28, none⟩])
    .ret))))))
theorem C13 {args : List AV} {r : AV} (hn : args.length ≤ 37) (h : vc Tryz.prog T [] A13 (Fin T [(.tmp 4), (.tmp 5)] r) ⟨envOf 0 args, []⟩) : CallP Tryz.prog 13 args r :=
  callP_of tok mixed Tryz.func13 (by kernel_rfl) (by kernel_rfl) (by kernel_rfl : Tryz.f13.ntmps = 37) (by kernel_rfl : Tryz.f13.body.bind (strip 37 (fun _ => [])) = some A13) hn h
def A12 : ACode :=
  (.seq (.reg [] [⟨some 4, (.assign (.const (.bool false))), 4, none⟩])
    (.seq (.seq (.reg [] [⟨some 6, (.move (.tmp 0)), 27, none⟩,
      ⟨some 7, (.call ⟨(.builtin .len), #[(.tmp 6)], #[27]⟩), 3, none⟩,
      ⟨some 8, (.move (.tmp 1)), 27, none⟩,
      ⟨some 9, (.call ⟨(.builtin .len), #[(.tmp 8)], #[27]⟩), 3, none⟩,
      ⟨some 10, (.binOp .neq 3 (.tmp 7) (.tmp 9) 3), 4, none⟩])
    (.cond (.tmp 10)
    (.seq (.reg [] [⟨some 4, (.assign (.const (.bool false))), 4, none⟩])
    .ret)
    .skip))
    (.seq (.seq (.reg [] [⟨some 5, (.assign (.const (.int .i64 0))), 3, none⟩])
    (.block 0 (.loop (.seq (.seq (.reg [] [⟨some 11, (.move (.tmp 5)), 3, none⟩,
      ⟨some 12, (.move (.tmp 0)), 27, none⟩,
      ⟨some 13, (.call ⟨(.builtin .len), #[(.tmp 12)], #[27]⟩), 3, none⟩,
      ⟨some 14, (.binOp .lss 3 (.tmp 11) (.tmp 13) 3), 4, none⟩])
    (.cond (.tmp 14)
    .skip
    (.exit 0)))
    (.seq (.block 1 (.seq (.draw [] [⟨some 17, (.move (.tmp 0)), 27, none⟩,
      ⟨some 18, (.move (.tmp 5)), 3, none⟩,
      ⟨some 19, (.indexAddr 27 (.tmp 17) (.tmp 18)), 0, none⟩,
      ⟨some 20, (.load 23 (.tmp 19)), 23, none⟩,
      ⟨some 21, (.move (.tmp 1)), 27, none⟩,
      ⟨some 22, (.move (.tmp 5)), 3, none⟩,
      ⟨some 23, (.indexAddr 27 (.tmp 21) (.tmp 22)), 0, none⟩,
      ⟨some 24, (.load 23 (.tmp 23)), 23, none⟩,
      ⟨some 25, (.call ⟨(.value (.func 32)), #[(.tmp 20), (.tmp 24)], #[23, 23]⟩), 4, none⟩,
      ⟨some 26, (.unOp .not 4 (.tmp 25)), 4, none⟩] [(0, 1), (0, 4), (1, 4), (2, 4), (3, 4), (0, 5), (1, 5), (2, 5), (3, 5), (4, 5), (0, 6), (1, 6), (2, 6), (3, 6), (0, 7), (1, 7), (2, 7), (3, 7)])
    (.cond (.tmp 26)
    (.seq (.reg [] [⟨some 4, (.assign (.const (.bool false))), 4, none⟩])
    .ret)
    .skip)))
    (.reg [] [⟨some 15, (.move (.tmp 5)), 3, none⟩,
      ⟨some 16, (.binOp .add 3 (.tmp 15) (.const (.int .i64 1)) 3), 3, none⟩,
      ⟨some 5, (.assign (.tmp 16)), 3, none⟩]))))))
    (.seq (.reg [] [⟨some 4, (.assign (.const (.bool true))), 4, none⟩])
    .ret))))
theorem C12 {args : List AV} {r : AV} (hn : args.length ≤ 27) (h : vc Tryz.prog T [] A12 (Fin T [(.tmp 4)] r) ⟨envOf 0 args, []⟩) : CallP Tryz.prog 12 args r :=
  callP_of tok mixed Tryz.func12 (by kernel_rfl) (by kernel_rfl) (by kernel_rfl : Tryz.f12.ntmps = 27) (by kernel_rfl : Tryz.f12.body.bind (strip 27 (fun _ => [])) = some A12) hn h
def A15 : ACode :=
  (.seq (.reg [] [⟨some 4, (.assign (.const (.bool false))), 4, none⟩])
    (.seq (.seq (.reg [] [⟨some 5, (.assign (.const (.int .i64 0))), 3, none⟩])
    (.block 0 (.loop (.seq (.seq (.reg [] [⟨some 8, (.move (.tmp 5)), 3, none⟩,
      ⟨some 9, (.move (.tmp 0)), 27, none⟩,
      ⟨some 10, (.call ⟨(.builtin .len), #[(.tmp 9)], #[27]⟩), 3, none⟩,
      ⟨some 11, (.binOp .lss 3 (.tmp 8) (.tmp 10) 3), 4, none⟩])
    (.cond (.tmp 11)
    .skip
    (.exit 0)))
    (.seq (.block 1 (.seq (.reg [] [⟨some 6, (.assign (.const (.bool false))), 4, none⟩])
    (.seq (.seq (.reg [] [⟨some 7, (.assign (.const (.int .i64 0))), 3, none⟩])
    (.block 2 (.loop (.seq (.seq (.reg [] [⟨some 14, (.move (.tmp 7)), 3, none⟩,
      ⟨some 15, (.move (.tmp 1)), 27, none⟩,
      ⟨some 16, (.call ⟨(.builtin .len), #[(.tmp 15)], #[27]⟩), 3, none⟩,
      ⟨some 17, (.binOp .lss 3 (.tmp 14) (.tmp 16) 3), 4, none⟩])
    (.cond (.tmp 17)
    .skip
    (.exit 2)))
    (.seq (.block 3 (.draw [] [⟨some 20, (.move (.tmp 6)), 4, none⟩,
      ⟨some 21, (.move (.tmp 20)), 4, none⟩,
      ⟨some 22, (.move (.tmp 0)), 27, some (21, false)⟩,
      ⟨some 23, (.move (.tmp 5)), 3, some (21, false)⟩,
      ⟨some 24, (.indexAddr 27 (.tmp 22) (.tmp 23)), 0, some (21, false)⟩,
      ⟨some 25, (.load 23 (.tmp 24)), 23, some (21, false)⟩,
      ⟨some 26, (.move (.tmp 1)), 27, some (21, false)⟩,
      ⟨some 27, (.move (.tmp 7)), 3, some (21, false)⟩,
      ⟨some 28, (.indexAddr 27 (.tmp 26) (.tmp 27)), 0, some (21, false)⟩,
      ⟨some 29, (.load 23 (.tmp 28)), 23, some (21, false)⟩,
      ⟨some 30, (.call ⟨(.value (.func 32)), #[(.tmp 25), (.tmp 29)], #[23, 23]⟩), 4, some (21, false)⟩,
      ⟨some 31, (.pick (.tmp 21) (.const (.bool true)) (.tmp 30)), 4, none⟩,
      ⟨some 6, (.assign (.tmp 31)), 4, none⟩] [(2, 3), (2, 6), (3, 6), (4, 6), (5, 6), (2, 7), (3, 7), (4, 7), (5, 7), (6, 7), (2, 8), (3, 8), (4, 8), (5, 8), (2, 9), (3, 9), (4, 9), (5, 9)]))
    (.reg [] [⟨some 18, (.move (.tmp 7)), 3, none⟩,
      ⟨some 19, (.binOp .add 3 (.tmp 18) (.const (.int .i64 1)) 3), 3, none⟩,
      ⟨some 7, (.assign (.tmp 19)), 3, none⟩]))))))
    (.seq (.reg [] [⟨some 32, (.move (.tmp 6)), 4, none⟩,
      ⟨some 33, (.unOp .not 4 (.tmp 32)), 4, none⟩])
    (.cond (.tmp 33)
    (.seq (.reg [] [⟨some 4, (.assign (.const (.bool false))), 4, none⟩])
    .ret)
    .skip)))))
    (.reg [] [⟨some 12, (.move (.tmp 5)), 3, none⟩,
      ⟨some 13, (.binOp .add 3 (.tmp 12) (.const (.int .i64 1)) 3), 3, none⟩,
      ⟨some 5, (.assign (.tmp 13)), 3, none⟩]))))))
    (.seq (.reg [] [⟨some 4, (.assign (.const (.bool true))), 4, none⟩])
    .ret)))
theorem C15 {args : List AV} {r : AV} (hn : args.length ≤ 34) (h : vc Tryz.prog T [] A15 (Fin T [(.tmp 4)] r) ⟨envOf 0 args, []⟩) : CallP Tryz.prog 15 args r :=
  callP_of tok mixed Tryz.func15 (by kernel_rfl) (by kernel_rfl) (by kernel_rfl : Tryz.f15.ntmps = 34) (by kernel_rfl : Tryz.f15.body.bind (strip 34 (fun _ => [])) = some A15) hn h
def A10 : ACode :=
  (.seq (.reg [] [⟨some 4, (.assign (.const (.slice none 0 0))), 27, none⟩,
      ⟨some 5, (.assign (.const (.int .i64 0))), 28, none⟩])
    (.seq (.reg [] [⟨some 9, (.move (.tmp 0)), 22, none⟩,
      ⟨some 10, (.move (.tmp 1)), 23, none⟩,
      ⟨some 11, (.call ⟨(.value (.func 35)), #[(.tmp 9), (.tmp 10)], #[22, 23]⟩), 49, none⟩,
      ⟨some 8, (.move (.tmp 11)), 49, none⟩,
      ⟨some 12, (.extract (.tmp 8) 0), 48, none⟩,
      ⟨some 13, (.extract (.tmp 8) 1), 28, none⟩,
      ⟨some 6, (.assign (.tmp 12)), 48, none⟩,
      ⟨some 7, (.assign (.tmp 13)), 28, none⟩])
    (.seq (.seq (.reg [] [⟨some 14, (.move (.tmp 7)), 28, none⟩,
      ⟨some 15, (.binOp .neq 28 (.tmp 14) (.const (.int .i64 0)) 28), 4, none⟩])
    (.cond (.tmp 15)
    (.seq (.reg [] [⟨some 16, (.move (.tmp 7)), 28, none⟩,
      ⟨some 4, (.assign (.const (.slice none 0 0))), 27, none⟩,
      ⟨some 5, (.assign (.tmp 16)), 28, none⟩])
    .ret)
    .skip))
    (.seq (.reg [] [⟨some 17, (.move (.tmp 6)), 48, none⟩,
      ⟨some 18, (.call ⟨(.value (.func 36)), #[(.tmp 17)], #[48]⟩), 27, none⟩,
      ⟨some 4, (.assign (.tmp 18)), 27, none⟩,
      ⟨some 5, (.assign (.const (.int .i64 0))), 28, none⟩])
    .ret))))
theorem C10 {args : List AV} {r : AV} (hn : args.length ≤ 19) (h : vc Tryz.prog T [] A10 (Fin T [(.tmp 4), (.tmp 5)] r) ⟨envOf 0 args, []⟩) : CallP Tryz.prog 10 args r :=
  callP_of tok mixed Tryz.func10 (by kernel_rfl) (by kernel_rfl) (by kernel_rfl : Tryz.f10.ntmps = 19) (by kernel_rfl : Tryz.f10.body.bind (strip 19 (fun _ => [])) = some A10) hn h
def A35 : ACode :=
  (.seq (.reg [] [⟨some 4, (.assign (.const (.pointer none))), 48, none⟩,
      ⟨some 5, (.assign (.const (.int .i64 0))), 28, none⟩])
    (.seq (.seq (.reg [] [⟨some 7, (.move (.tmp 0)), 22, none⟩,
      ⟨some 8, (.move (.tmp 1)), 23, none⟩,
      ⟨some 9, (.buildSlice 27 1 #[(0, (.tmp 8))]), 27, none⟩,
      ⟨some 10, (.call ⟨(.value (.func 74)), #[(.tmp 7), (.tmp 9)], #[22, 27]⟩), 28, none⟩,
      ⟨some 6, (.assign (.tmp 10)), 28, none⟩])
    (.seq (.reg [] [⟨some 11, (.move (.tmp 6)), 28, none⟩,
      ⟨some 12, (.binOp .neq 28 (.tmp 11) (.const (.int .i64 0)) 28), 4, none⟩])
    (.cond (.tmp 12)
    (.seq (.reg [] [⟨some 13, (.move (.tmp 6)), 28, none⟩,
      ⟨some 4, (.assign (.const (.pointer none))), 48, none⟩,
      ⟨some 5, (.assign (.tmp 13)), 28, none⟩])
    .ret)
    .skip)))
    (.seq (.reg [] [⟨some 14, (.move (.tmp 0)), 22, none⟩,
      ⟨some 15, (.move (.tmp 1)), 23, none⟩,
      ⟨some 16, (.call ⟨(.value (.func 75)), #[(.tmp 14), (.tmp 15)], #[22, 23]⟩), 49, none⟩,
      ⟨some 17, (.extract (.tmp 16) 0), 48, none⟩,
      ⟨some 18, (.extract (.tmp 16) 1), 28, none⟩,
      ⟨some 4, (.assign (.tmp 17)), 48, none⟩,
      ⟨some 5, (.assign (.tmp 18)), 28, none⟩])
    .ret)))
theorem C35 {args : List AV} {r : AV} (hn : args.length ≤ 19) (h : vc Tryz.prog T [] A35 (Fin T [(.tmp 4), (.tmp 5)] r) ⟨envOf 0 args, []⟩) : CallP Tryz.prog 35 args r :=
  callP_of tok mixed Tryz.func35 (by kernel_rfl) (by kernel_rfl) (by kernel_rfl : Tryz.f35.ntmps = 19) (by kernel_rfl : Tryz.f35.body.bind (strip 19 (fun _ => [])) = some A35) hn h
def A40 : ACode :=
  (.seq (.reg [] [⟨some 2, (.assign (.const (.slice none 0 0))), 27, none⟩])
    (.seq (.reg [] [⟨some 3, (.move (.tmp 0)), 27, none⟩,
      ⟨some 4, (.call ⟨(.value (.func 58)), #[(.tmp 3), (.func 59)], #[27, 82]⟩), 0, none⟩])
    (.seq (.reg [] [⟨some 5, (.move (.tmp 0)), 27, none⟩,
      ⟨some 6, (.call ⟨(.value (.func 60)), #[(.tmp 5), (.func 49)], #[27, 40]⟩), 27, none⟩,
      ⟨some 2, (.assign (.tmp 6)), 27, none⟩])
    .ret)))
theorem CL40 {pre suf : List AV} {sz : Nat} {els els' : List AV} {r : LRet} (hn : (pre ++ .sl lid 0 0 els.length :: suf).length ≤ 7) (h : vc Tryz.prog T [] A40 (FinL T [(.tmp 2)] sz r els') ⟨envOf 0 (pre ++ .sl lid 0 0 els.length :: suf), [(lid, some ⟨sz, els, 0, false⟩)]⟩) : CallL Tryz.prog 40 pre sz els suf r els' :=
  callL_of tok mixed Tryz.func40 (by kernel_rfl) (by kernel_rfl) (by kernel_rfl : Tryz.f40.ntmps = 7) (by kernel_rfl : Tryz.f40.body.bind (strip 7 (fun _ => [])) = some A40) hn h
def A37 : ACode :=
  (.seq (.reg [] [⟨some 4, (.alloc 53), 0, none⟩,
      ⟨some 5, (.assign (.const (.int .i64 0))), 28, none⟩])
    (.seq (.seq (.reg [] [⟨some 9, (.move (.tmp 0)), 22, none⟩,
      ⟨some 10, (.move (.tmp 1)), 23, none⟩,
      ⟨some 11, (.call ⟨(.value (.func 77)), #[(.tmp 9), (.tmp 10), (.const (.slice none 0 0))], #[22, 23, 23]⟩), 28, none⟩,
      ⟨some 6, (.assign (.tmp 11)), 28, none⟩])
    (.seq (.reg [] [⟨some 12, (.move (.tmp 6)), 28, none⟩,
      ⟨some 13, (.binOp .neq 28 (.tmp 12) (.const (.int .i64 0)) 28), 4, none⟩])
    (.cond (.tmp 13)
    (.seq (.reg [] [⟨some 14, (.build 53 #[]), 53, none⟩,
      ⟨some 15, (.move (.tmp 6)), 28, none⟩,
      ⟨none, (.store 53 (.tmp 4) (.tmp 14)), 0, none⟩,
      ⟨some 5, (.assign (.tmp 15)), 28, none⟩])
    .ret)
    .skip)))
    (.seq (.reg [] [⟨some 17, (.move (.tmp 0)), 22, none⟩,
      ⟨some 18, (.move (.tmp 1)), 23, none⟩,
      ⟨some 19, (.call ⟨(.value (.func 78)), #[(.tmp 17), (.tmp 18)], #[22, 23]⟩), 99, none⟩,
      ⟨some 16, (.move (.tmp 19)), 99, none⟩,
      ⟨some 20, (.extract (.tmp 16) 0), 53, none⟩,
      ⟨some 21, (.extract (.tmp 16) 1), 4, none⟩,
      ⟨some 7, (.alloc 53), 0, none⟩,
      ⟨none, (.store 53 (.tmp 7) (.tmp 20)), 0, none⟩,
      ⟨some 8, (.assign (.tmp 21)), 4, none⟩])
    (.seq (.seq (.reg [] [⟨some 22, (.move (.tmp 8)), 4, none⟩,
      ⟨some 23, (.unOp .not 4 (.tmp 22)), 4, none⟩])
    (.cond (.tmp 23)
    (.seq (.reg [] [⟨some 24, (.build 53 #[]), 53, none⟩,
      ⟨none, (.store 53 (.tmp 4) (.tmp 24)), 0, none⟩,
      ⟨some 5, (.assign (.const (.int .i64 3))), 28, none⟩])
    .ret)
    .skip))
    (.seq (.reg [] [⟨some 25, (.load 53 (.tmp 7)), 53, none⟩,
      ⟨none, (.store 53 (.tmp 4) (.tmp 25)), 0, none⟩,
      ⟨some 5, (.assign (.const (.int .i64 0))), 28, none⟩])
    .ret)))))
theorem C37 {args : List AV} {r : AV} (hn : args.length ≤ 26) (h : vc Tryz.prog T [] A37 (Fin T [(.cell 4 53), (.tmp 5)] r) ⟨envOf 0 args, []⟩) : CallP Tryz.prog 37 args r :=
  callP_of tok mixed Tryz.func37 (by kernel_rfl) (by kernel_rfl) (by kernel_rfl : Tryz.f37.ntmps = 26) (by kernel_rfl : Tryz.f37.body.bind (strip 26 (fun _ => [])) = some A37) hn h
def A79 : ACode :=
  (.seq (.reg [] [⟨some 4, (.assign (.const (.slice none 0 0))), 27, none⟩])
    (.seq (.reg [] [⟨some 5, (.assign (.const (.int .i64 0))), 3, none⟩])
    (.seq (.block 0 (.loop (.seq (.seq (.reg [] [⟨some 7, (.move (.tmp 5)), 3, none⟩,
      ⟨some 8, (.move (.tmp 0)), 27, none⟩,
      ⟨some 9, (.call ⟨(.builtin .len), #[(.tmp 8)], #[27]⟩), 3, none⟩,
      ⟨some 10, (.binOp .lss 3 (.tmp 7) (.tmp 9) 3), 4, none⟩,
      ⟨some 11, (.move (.tmp 10)), 4, none⟩,
      ⟨some 12, (.move (.tmp 0)), 27, some (11, true)⟩,
      ⟨some 13, (.move (.tmp 5)), 3, some (11, true)⟩,
      ⟨some 14, (.indexAddr 27 (.tmp 12) (.tmp 13)), 0, some (11, true)⟩,
      ⟨some 15, (.load 23 (.tmp 14)), 23, some (11, true)⟩,
      ⟨some 16, (.move (.tmp 1)), 23, some (11, true)⟩,
      ⟨some 17, (.call ⟨(.value (.func 105)), #[(.tmp 15), (.tmp 16)], #[23, 23]⟩), 4, some (11, true)⟩,
      ⟨some 18, (.pick (.tmp 11) (.tmp 17) (.const (.bool false))), 4, none⟩])
    (.cond (.tmp 18)
    .skip
    (.exit 0)))
    (.block 1 (.reg [] [⟨some 19, (.move (.tmp 5)), 3, none⟩,
      ⟨some 20, (.binOp .add 3 (.tmp 19) (.const (.int .i64 1)) 3), 3, none⟩,
      ⟨some 5, (.assign (.tmp 20)), 3, none⟩])))))
    (.seq (.seq (.reg [] [⟨some 21, (.move (.tmp 5)), 3, none⟩,
      ⟨some 22, (.move (.tmp 0)), 27, none⟩,
      ⟨some 23, (.call ⟨(.builtin .len), #[(.tmp 22)], #[27]⟩), 3, none⟩,
      ⟨some 24, (.binOp .lss 3 (.tmp 21) (.tmp 23) 3), 4, none⟩,
      ⟨some 25, (.move (.tmp 24)), 4, none⟩,
      ⟨some 26, (.move (.tmp 0)), 27, some (25, true)⟩,
      ⟨some 27, (.move (.tmp 5)), 3, some (25, true)⟩,
      ⟨some 28, (.indexAddr 27 (.tmp 26) (.tmp 27)), 0, some (25, true)⟩,
      ⟨some 29, (.load 23 (.tmp 28)), 23, some (25, true)⟩,
      ⟨some 30, (.move (.tmp 1)), 23, some (25, true)⟩,
      ⟨some 31, (.call ⟨(.value (.func 32)), #[(.tmp 29), (.tmp 30)], #[23, 23]⟩), 4, some (25, true)⟩,
      ⟨some 32, (.pick (.tmp 25) (.tmp 31) (.const (.bool false))), 4, none⟩])
    (.cond (.tmp 32)
    (.seq (.reg [] [⟨some 33, (.move (.tmp 0)), 27, none⟩,
      ⟨some 4, (.assign (.tmp 33)), 27, none⟩])
    .ret)
    .skip))
    (.seq (.reg [] [⟨some 6, (.assign (.const (.slice none 0 0))), 27, none⟩])
    (.seq (.reg [] [⟨some 34, (.move (.tmp 6)), 27, none⟩,
      ⟨some 35, (.move (.tmp 0)), 27, none⟩,
      ⟨some 36, (.move (.tmp 5)), 3, none⟩,
      ⟨some 37, (.slice 27 (.tmp 35) none (some (.tmp 36)) none), 27, none⟩,
      ⟨some 38, (.call ⟨(.builtin .append), #[(.tmp 34), (.tmp 37)], #[27, 27]⟩), 27, none⟩,
      ⟨some 6, (.assign (.tmp 38)), 27, none⟩])
    (.seq (.reg [] [⟨some 39, (.move (.tmp 6)), 27, none⟩,
      ⟨some 40, (.move (.tmp 1)), 23, none⟩,
      ⟨some 41, (.buildSlice 27 1 #[(0, (.tmp 40))]), 27, none⟩,
      ⟨some 42, (.call ⟨(.builtin .append), #[(.tmp 39), (.tmp 41)], #[27, 27]⟩), 27, none⟩,
      ⟨some 6, (.assign (.tmp 42)), 27, none⟩])
    (.seq (.reg [] [⟨some 43, (.move (.tmp 6)), 27, none⟩,
      ⟨some 44, (.move (.tmp 0)), 27, none⟩,
      ⟨some 45, (.move (.tmp 5)), 3, none⟩,
      ⟨some 46, (.slice 27 (.tmp 44) (some (.tmp 45)) none none), 27, none⟩,
      ⟨some 47, (.call ⟨(.builtin .append), #[(.tmp 43), (.tmp 46)], #[27, 27]⟩), 27, none⟩,
      ⟨some 4, (.assign (.tmp 47)), 27, none⟩])
    .ret))))))))
theorem C79 {args : List AV} {r : AV} (hn : args.length ≤ 48) (h : vc Tryz.prog T [] A79 (Fin T [(.tmp 4)] r) ⟨envOf 0 args, []⟩) : CallP Tryz.prog 79 args r :=
  callP_of tok mixed Tryz.func79 (by kernel_rfl) (by kernel_rfl) (by kernel_rfl : Tryz.f79.ntmps = 48) (by kernel_rfl : Tryz.f79.body.bind (strip 48 (fun _ => [])) = some A79) hn h
def A103 : ACode :=
  (.seq (.reg [] [⟨some 4, (.assign (.const (.slice none 0 0))), 27, none⟩])
    (.seq (.reg [] [⟨some 10, (.move (.tmp 0)), 22, none⟩,
      ⟨some 11, (.move (.tmp 1)), 23, none⟩,
      ⟨some 12, (.call ⟨(.value (.func 150)), #[(.tmp 10), (.tmp 11)], #[22, 23]⟩), 162, none⟩,
      ⟨some 9, (.move (.tmp 12)), 162, none⟩,
      ⟨some 13, (.extract (.tmp 9) 0), 58, none⟩,
      ⟨some 14, (.extract (.tmp 9) 1), 27, none⟩,
      ⟨some 5, (.assign (.tmp 13)), 58, none⟩,
      ⟨some 6, (.assign (.tmp 14)), 27, none⟩])
    (.seq (.reg [] [⟨some 7, (.assign (.const (.slice none 0 0))), 27, none⟩])
    (.seq (.seq (.reg [] [⟨some 8, (.assign (.const (.int .i64 0))), 3, none⟩])
    (.block 0 (.loop (.seq (.seq (.reg [] [⟨some 15, (.move (.tmp 8)), 3, none⟩,
      ⟨some 16, (.move (.tmp 6)), 27, none⟩,
      ⟨some 17, (.call ⟨(.builtin .len), #[(.tmp 16)], #[27]⟩), 3, none⟩,
      ⟨some 18, (.binOp .lss 3 (.tmp 15) (.tmp 17) 3), 4, none⟩])
    (.cond (.tmp 18)
    .skip
    (.exit 0)))
    (.seq (.block 1 (.reg [] [⟨some 21, (.move (.tmp 7)), 27, none⟩,
      ⟨some 22, (.move (.tmp 6)), 27, none⟩,
      ⟨some 23, (.move (.tmp 8)), 3, none⟩,
      ⟨some 24, (.indexAddr 27 (.tmp 22) (.tmp 23)), 0, none⟩,
      ⟨some 25, (.load 23 (.tmp 24)), 23, none⟩,
      ⟨some 26, (.call ⟨(.value (.func 79)), #[(.tmp 21), (.tmp 25)], #[27, 23]⟩), 27, none⟩,
      ⟨some 7, (.assign (.tmp 26)), 27, none⟩]))
    (.reg [] [⟨some 19, (.move (.tmp 8)), 3, none⟩,
      ⟨some 20, (.binOp .add 3 (.tmp 19) (.const (.int .i64 1)) 3), 3, none⟩,
      ⟨some 8, (.assign (.tmp 20)), 3, none⟩]))))))
    (.seq (.reg [] [⟨some 27, (.move (.tmp 7)), 27, none⟩,
      ⟨some 4, (.assign (.tmp 27)), 27, none⟩])
    .ret)))))
theorem C103 {args : List AV} {r : AV} (hn : args.length ≤ 28) (h : vc Tryz.prog T [] A103 (Fin T [(.tmp 4)] r) ⟨envOf 0 args, []⟩) : CallP Tryz.prog 103 args r :=
  callP_of tok mixed Tryz.func103 (by kernel_rfl) (by kernel_rfl) (by kernel_rfl : Tryz.f103.ntmps = 28) (by kernel_rfl : Tryz.f103.body.bind (strip 28 (fun _ => [])) = some A103) hn h
def A36 : ACode :=
  (.seq (.reg [] [⟨some 2, (.assign (.const (.slice none 0 0))), 27, none⟩])
    (.seq (.reg [] [⟨some 3, (.assign (.const (.slice none 0 0))), 27, none⟩])
    (.seq (.seq (.reg [] [⟨some 6, (.move (.tmp 0)), 48, none⟩,
      ⟨some 7, (.nilCheck (.tmp 6)), 0, none⟩,
      ⟨some 8, (.fieldAddr 60 (.tmp 7) 1), 0, none⟩,
      ⟨some 9, (.load 27 (.tmp 8)), 27, none⟩,
      ⟨some 10, (.call ⟨(.builtin .len), #[(.tmp 9)], #[27]⟩), 3, none⟩,
      ⟨some 11, (.move (.const (.int .i64 0))), 3, none⟩])
    (.block 0 (.loop (.seq (.reg [] [⟨some 12, (.binOp .lss 3 (.tmp 11) (.tmp 10) 3), 0, none⟩])
    (.seq (.cond (.tmp 12)
    .skip
    (.exit 0))
    (.seq (.block 1 (.seq (.reg [] [⟨some 13, (.indexAddr 27 (.tmp 9) (.tmp 11)), 0, none⟩,
      ⟨some 14, (.load 23 (.tmp 13)), 23, none⟩,
      ⟨some 5, (.assign (.tmp 14)), 23, none⟩])
    (.seq (.reg [] [⟨some 15, (.move (.tmp 0)), 48, none⟩,
      ⟨some 16, (.nilCheck (.tmp 15)), 0, none⟩,
      ⟨some 17, (.fieldAddr 60 (.tmp 16) 0), 0, none⟩,
      ⟨some 18, (.load 22 (.tmp 17)), 22, none⟩,
      ⟨some 19, (.move (.tmp 5)), 23, none⟩,
      ⟨some 20, (.call ⟨(.value (.func 76)), #[(.tmp 18), (.tmp 19)], #[22, 23]⟩), 96, none⟩,
      ⟨some 21, (.call ⟨(.builtin .len), #[(.tmp 20)], #[96]⟩), 3, none⟩,
      ⟨some 22, (.binOp .eql 3 (.tmp 21) (.const (.int .i64 0)) 3), 4, none⟩])
    (.cond (.tmp 22)
    (.reg [] [⟨some 23, (.move (.tmp 3)), 27, none⟩,
      ⟨some 24, (.move (.tmp 5)), 23, none⟩,
      ⟨some 25, (.call ⟨(.value (.func 39)), #[(.tmp 24)], #[23]⟩), 23, none⟩,
      ⟨some 26, (.buildSlice 27 1 #[(0, (.tmp 25))]), 27, none⟩,
      ⟨some 27, (.call ⟨(.builtin .append), #[(.tmp 23), (.tmp 26)], #[27, 27]⟩), 27, none⟩,
      ⟨some 3, (.assign (.tmp 27)), 27, none⟩])
    .skip))))
    (.reg [] [⟨some 28, (.binOp .add 3 (.tmp 11) (.const (.int .i64 1)) 3), 3, none⟩,
      ⟨some 11, (.move (.tmp 28)), 3, none⟩])))))))
    (.seq (.reg [] [⟨some 29, (.move (.tmp 3)), 27, none⟩,
      ⟨some 30, (.call ⟨(.value (.func 40)), #[(.tmp 29)], #[27]⟩), 27, none⟩,
      ⟨some 2, (.assign (.tmp 30)), 27, none⟩])
    .ret))))
theorem C36 {args : List AV} {r : AV} (hn : args.length ≤ 31) (h : vc Tryz.prog T [] A36 (Fin T [(.tmp 2)] r) ⟨envOf 0 args, []⟩) : CallP Tryz.prog 36 args r :=
  callP_of tok mixed Tryz.func36 (by kernel_rfl) (by kernel_rfl) (by kernel_rfl : Tryz.f36.ntmps = 31) (by kernel_rfl : Tryz.f36.body.bind (strip 31 (fun _ => [])) = some A36) hn h
def A65 : ACode :=
  (.seq (.reg [] [⟨some 2, (.assign (.const (.string ⟨#[]⟩))), 9, none⟩])
    (.seq (.reg [] [⟨some 3, (.assign (.const (.slice none 0 0))), 119, none⟩])
    (.seq (.seq (.reg [] [⟨some 6, (.move (.tmp 0)), 23, none⟩,
      ⟨some 7, (.call ⟨(.builtin .len), #[(.tmp 6)], #[23]⟩), 3, none⟩,
      ⟨some 8, (.move (.const (.int .i64 0))), 3, none⟩])
    (.block 0 (.loop (.seq (.reg [] [⟨some 9, (.binOp .lss 3 (.tmp 8) (.tmp 7) 3), 0, none⟩])
    (.seq (.cond (.tmp 9)
    .skip
    (.exit 0))
    (.seq (.block 1 (.seq (.reg [] [⟨some 10, (.indexAddr 23 (.tmp 6) (.tmp 8)), 0, none⟩,
      ⟨some 11, (.load 3 (.tmp 10)), 3, none⟩,
      ⟨some 5, (.assign (.tmp 11)), 3, none⟩])
    (.reg [] [⟨some 12, (.move (.tmp 3)), 119, none⟩,
      ⟨some 13, (.move (.tmp 5)), 3, none⟩,
      ⟨some 14, (.binOp .add 3 (.const (.int .i64 48)) (.tmp 13) 3), 3, none⟩,
      ⟨some 15, (.convert 3 5 (.tmp 14)), 5, none⟩,
      ⟨some 16, (.buildSlice 119 1 #[(0, (.tmp 15))]), 119, none⟩,
      ⟨some 17, (.call ⟨(.builtin .append), #[(.tmp 12), (.tmp 16)], #[119, 119]⟩), 119, none⟩,
      ⟨some 3, (.assign (.tmp 17)), 119, none⟩])))
    (.reg [] [⟨some 18, (.binOp .add 3 (.tmp 8) (.const (.int .i64 1)) 3), 3, none⟩,
      ⟨some 8, (.move (.tmp 18)), 3, none⟩])))))))
    (.seq (.reg [] [⟨some 19, (.move (.tmp 3)), 119, none⟩,
      ⟨some 20, (.convert 119 9 (.tmp 19)), 9, none⟩,
      ⟨some 2, (.assign (.tmp 20)), 9, none⟩])
    .ret))))
theorem C65 {args : List AV} {r : AV} (hn : args.length ≤ 21) (h : vc Tryz.prog T [] A65 (Fin T [(.tmp 2)] r) ⟨envOf 0 args, []⟩) : CallP Tryz.prog 65 args r :=
  callP_of tok mixed Tryz.func65 (by kernel_rfl) (by kernel_rfl) (by kernel_rfl : Tryz.f65.ntmps = 21) (by kernel_rfl : Tryz.f65.body.bind (strip 21 (fun _ => [])) = some A65) hn h
def A75 : ACode :=
  (.seq (.reg [] [⟨some 4, (.assign (.const (.pointer none))), 48, none⟩,
      ⟨some 5, (.assign (.const (.int .i64 0))), 28, none⟩])
    (.seq (.reg [] [⟨some 12, (.move (.tmp 0)), 22, none⟩,
      ⟨some 13, (.move (.tmp 1)), 23, none⟩,
      ⟨some 14, (.buildSlice 27 1 #[(0, (.tmp 13))]), 27, none⟩,
      ⟨some 15, (.makeMap 57 none), 57, none⟩,
      ⟨some 16, (.move (.tmp 1)), 23, none⟩,
      ⟨some 17, (.call ⟨(.value (.func 65)), #[(.tmp 16)], #[23]⟩), 9, none⟩,
      ⟨none, (.insert 57 (.tmp 15) (.tmp 17) (.const (.int .i64 0))), 0, none⟩,
      ⟨some 18, (.move (.tmp 15)), 57, none⟩,
      ⟨some 19, (.buildSlice 23 1 #[(0, (.const (.int .i64 (-1))))]), 23, none⟩,
      ⟨some 20, (.build 103 #[]), 103, none⟩,
      ⟨some 21, (.buildSlice 58 1 #[(0, (.tmp 20))]), 58, none⟩,
      ⟨some 22, (.build 60 #[(0, (.tmp 12)), (1, (.tmp 14)), (2, (.tmp 18)), (3, (.tmp 19)), (4, (.tmp 21))]), 60, none⟩,
      ⟨some 23, (.box 60 (.tmp 22)), 48, none⟩,
      ⟨some 6, (.assign (.tmp 23)), 48, none⟩])
    (.seq (.seq (.reg [] [⟨some 7, (.assign (.const (.int .i64 0))), 3, none⟩])
    (.block 0 (.loop (.seq (.seq (.reg [] [⟨some 24, (.move (.tmp 7)), 3, none⟩,
      ⟨some 25, (.move (.tmp 6)), 48, none⟩,
      ⟨some 26, (.nilCheck (.tmp 25)), 0, none⟩,
      ⟨some 27, (.fieldAddr 60 (.tmp 26) 1), 0, none⟩,
      ⟨some 28, (.load 27 (.tmp 27)), 27, none⟩,
      ⟨some 29, (.call ⟨(.builtin .len), #[(.tmp 28)], #[27]⟩), 3, none⟩,
      ⟨some 30, (.binOp .lss 3 (.tmp 24) (.tmp 29) 3), 4, none⟩])
    (.cond (.tmp 30)
    .skip
    (.exit 0)))
    (.seq (.block 1 (.seq (.reg [] [⟨some 33, (.move (.tmp 0)), 22, none⟩,
      ⟨some 34, (.move (.tmp 6)), 48, none⟩,
      ⟨some 35, (.nilCheck (.tmp 34)), 0, none⟩,
      ⟨some 36, (.fieldAddr 60 (.tmp 35) 1), 0, none⟩,
      ⟨some 37, (.load 27 (.tmp 36)), 27, none⟩,
      ⟨some 38, (.move (.tmp 7)), 3, none⟩,
      ⟨some 39, (.indexAddr 27 (.tmp 37) (.tmp 38)), 0, none⟩,
      ⟨some 40, (.load 23 (.tmp 39)), 23, none⟩,
      ⟨some 41, (.call ⟨(.value (.func 76)), #[(.tmp 33), (.tmp 40)], #[22, 23]⟩), 96, none⟩,
      ⟨some 42, (.call ⟨(.builtin .len), #[(.tmp 41)], #[96]⟩), 3, none⟩,
      ⟨some 43, (.move (.const (.int .i64 0))), 3, none⟩])
    (.block 2 (.loop (.seq (.reg [] [⟨some 44, (.binOp .lss 3 (.tmp 43) (.tmp 42) 3), 0, none⟩])
    (.seq (.cond (.tmp 44)
    .skip
    (.exit 2))
    (.seq (.block 3 (.seq (.reg [] [⟨some 45, (.indexAddr 96 (.tmp 41) (.tmp 43)), 0, none⟩,
      ⟨some 46, (.load 105 (.tmp 45)), 105, none⟩,
      ⟨some 9, (.alloc 105), 0, none⟩,
      ⟨none, (.store 105 (.tmp 9) (.tmp 46)), 0, none⟩])
    (.seq (.seq (.draw [] [⟨some 48, (.move (.tmp 6)), 48, none⟩,
      ⟨some 49, (.nilCheck (.tmp 48)), 0, none⟩,
      ⟨some 50, (.fieldAddr 60 (.tmp 49) 2), 0, none⟩,
      ⟨some 51, (.load 57 (.tmp 50)), 57, none⟩,
      ⟨some 52, (.fieldAddr 105 (.tmp 9) 1), 0, none⟩,
      ⟨some 53, (.load 23 (.tmp 52)), 23, none⟩,
      ⟨some 54, (.call ⟨(.value (.func 65)), #[(.tmp 53)], #[23]⟩), 9, none⟩,
      ⟨some 55, (.lookup 57 (.tmp 51) (.tmp 54) true), 63, none⟩,
      ⟨some 47, (.move (.tmp 55)), 63, none⟩,
      ⟨some 56, (.extract (.tmp 47) 0), 3, none⟩,
      ⟨some 57, (.extract (.tmp 47) 1), 4, none⟩,
      ⟨some 10, (.assign (.tmp 56)), 3, none⟩,
      ⟨some 11, (.assign (.tmp 57)), 4, none⟩] [(0, 4), (1, 4), (2, 4), (3, 4), (0, 5), (1, 5), (2, 5), (3, 5), (0, 6), (1, 6), (2, 6), (3, 6), (9, 10), (10, 11)])
    (.seq (.reg [] [⟨some 58, (.move (.tmp 11)), 4, none⟩])
    (.cond (.tmp 58)
    (.exit 3)
    .skip)))
    (.seq (.seq (.reg [] [⟨some 59, (.move (.tmp 6)), 48, none⟩,
      ⟨some 60, (.nilCheck (.tmp 59)), 0, none⟩,
      ⟨some 61, (.fieldAddr 60 (.tmp 60) 1), 0, none⟩,
      ⟨some 62, (.load 27 (.tmp 61)), 27, none⟩,
      ⟨some 63, (.call ⟨(.builtin .len), #[(.tmp 62)], #[27]⟩), 3, none⟩,
      ⟨some 64, (.binOp .eql 3 (.tmp 63) (.const (.int .i64 300)) 3), 4, none⟩])
    (.cond (.tmp 64)
    (.seq (.reg [] [⟨some 4, (.assign (.const (.pointer none))), 48, none⟩,
      ⟨some 5, (.assign (.const (.int .i64 3))), 28, none⟩])
    .ret)
    .skip))
    (.seq (.draw [] [⟨some 65, (.move (.tmp 6)), 48, none⟩,
      ⟨some 66, (.nilCheck (.tmp 65)), 0, none⟩,
      ⟨some 67, (.fieldAddr 60 (.tmp 66) 2), 0, none⟩,
      ⟨some 68, (.load 57 (.tmp 67)), 57, none⟩,
      ⟨some 69, (.fieldAddr 105 (.tmp 9) 1), 0, none⟩,
      ⟨some 70, (.load 23 (.tmp 69)), 23, none⟩,
      ⟨some 71, (.call ⟨(.value (.func 65)), #[(.tmp 70)], #[23]⟩), 9, none⟩,
      ⟨some 72, (.move (.tmp 6)), 48, none⟩,
      ⟨some 73, (.nilCheck (.tmp 72)), 0, none⟩,
      ⟨some 74, (.fieldAddr 60 (.tmp 73) 1), 0, none⟩,
      ⟨some 75, (.load 27 (.tmp 74)), 27, none⟩,
      ⟨some 76, (.call ⟨(.builtin .len), #[(.tmp 75)], #[27]⟩), 3, none⟩,
      ⟨none, (.mapUpdate 57 (.tmp 68) (.tmp 71) (.tmp 76)), 0, none⟩] [(0, 4), (1, 4), (2, 4), (3, 4), (0, 5), (1, 5), (2, 5), (3, 5), (0, 6), (1, 6), (2, 6), (3, 6), (0, 7), (1, 7), (2, 7), (3, 7), (4, 7), (5, 7), (6, 7), (0, 8), (1, 8), (2, 8), (3, 8), (4, 8), (5, 8), (6, 8), (0, 9), (1, 9), (2, 9), (3, 9), (4, 9), (5, 9), (6, 9), (0, 10), (1, 10), (2, 10), (3, 10), (4, 10), (5, 10), (6, 10), (0, 11), (1, 11), (2, 11), (3, 11), (4, 11), (5, 11), (6, 11)])
    (.draw [] [⟨some 77, (.move (.tmp 6)), 48, none⟩,
      ⟨some 78, (.move (.tmp 6)), 48, none⟩,
      ⟨some 79, (.move (.tmp 6)), 48, none⟩,
      ⟨some 80, (.move (.tmp 6)), 48, none⟩,
      ⟨some 81, (.nilCheck (.tmp 80)), 0, none⟩,
      ⟨some 82, (.fieldAddr 60 (.tmp 81) 1), 0, none⟩,
      ⟨some 83, (.load 27 (.tmp 82)), 27, none⟩,
      ⟨some 84, (.fieldAddr 105 (.tmp 9) 1), 0, none⟩,
      ⟨some 85, (.load 23 (.tmp 84)), 23, none⟩,
      ⟨some 86, (.buildSlice 27 1 #[(0, (.tmp 85))]), 27, none⟩,
      ⟨some 87, (.call ⟨(.builtin .append), #[(.tmp 83), (.tmp 86)], #[27, 27]⟩), 27, none⟩,
      ⟨some 88, (.move (.tmp 6)), 48, none⟩,
      ⟨some 89, (.nilCheck (.tmp 88)), 0, none⟩,
      ⟨some 90, (.fieldAddr 60 (.tmp 89) 3), 0, none⟩,
      ⟨some 91, (.load 23 (.tmp 90)), 23, none⟩,
      ⟨some 92, (.move (.tmp 7)), 3, none⟩,
      ⟨some 93, (.buildSlice 23 1 #[(0, (.tmp 92))]), 23, none⟩,
      ⟨some 94, (.call ⟨(.builtin .append), #[(.tmp 91), (.tmp 93)], #[23, 23]⟩), 23, none⟩,
      ⟨some 95, (.move (.tmp 6)), 48, none⟩,
      ⟨some 96, (.nilCheck (.tmp 95)), 0, none⟩,
      ⟨some 97, (.fieldAddr 60 (.tmp 96) 4), 0, none⟩,
      ⟨some 98, (.load 58 (.tmp 97)), 58, none⟩,
      ⟨some 99, (.fieldAddr 105 (.tmp 9) 0), 0, none⟩,
      ⟨some 100, (.load 103 (.tmp 99)), 103, none⟩,
      ⟨some 101, (.buildSlice 58 1 #[(0, (.tmp 100))]), 58, none⟩,
      ⟨some 102, (.call ⟨(.builtin .append), #[(.tmp 98), (.tmp 101)], #[58, 58]⟩), 58, none⟩,
      ⟨some 103, (.nilCheck (.tmp 77)), 0, none⟩,
      ⟨some 104, (.fieldAddr 60 (.tmp 103) 1), 0, none⟩,
      ⟨none, (.store 27 (.tmp 104) (.tmp 87)), 0, none⟩,
      ⟨some 105, (.nilCheck (.tmp 78)), 0, none⟩,
      ⟨some 106, (.fieldAddr 60 (.tmp 105) 3), 0, none⟩,
      ⟨none, (.store 23 (.tmp 106) (.tmp 94)), 0, none⟩,
      ⟨some 107, (.nilCheck (.tmp 79)), 0, none⟩,
      ⟨some 108, (.fieldAddr 60 (.tmp 107) 4), 0, none⟩,
      ⟨none, (.store 58 (.tmp 108) (.tmp 102)), 0, none⟩] [(0, 1), (0, 2), (1, 2), (0, 3), (1, 3), (2, 3), (0, 4), (1, 4), (2, 4), (0, 5), (1, 5), (2, 5), (0, 6), (1, 6), (2, 6), (0, 7), (1, 7), (2, 7), (3, 7), (4, 7), (5, 7), (6, 7), (0, 8), (1, 8), (2, 8), (3, 8), (4, 8), (5, 8), (6, 8), (0, 9), (1, 9), (2, 9), (3, 9), (4, 9), (5, 9), (6, 9), (0, 10), (1, 10), (2, 10), (0, 11), (1, 11), (2, 11), (3, 11), (4, 11), (5, 11), (6, 11), (7, 11), (8, 11), (9, 11), (10, 11), (0, 12), (1, 12), (2, 12), (3, 12), (4, 12), (5, 12), (6, 12), (7, 12), (8, 12), (9, 12), (10, 12), (0, 13), (1, 13), (2, 13), (3, 13), (4, 13), (5, 13), (6, 13), (7, 13), (8, 13), (9, 13), (10, 13), (0, 14), (1, 14), (2, 14), (3, 14), (4, 14), (5, 14), (6, 14), (7, 14), (8, 14), (9, 14), (10, 14), (0, 15), (1, 15), (2, 15), (3, 15), (4, 15), (5, 15), (6, 15), (7, 15), (8, 15), (9, 15), (10, 15), (11, 15), (12, 15), (13, 15), (14, 15), (0, 16), (1, 16), (2, 16), (3, 16), (4, 16), (5, 16), (6, 16), (7, 16), (8, 16), (9, 16), (10, 16), (11, 16), (12, 16), (13, 16), (14, 16), (0, 17), (1, 17), (2, 17), (0, 18), (1, 18), (2, 18), (3, 18), (4, 18), (5, 18), (6, 18), (7, 18), (8, 18), (9, 18), (10, 18), (11, 18), (12, 18), (13, 18), (14, 18), (15, 18), (16, 18), (17, 18), (0, 19), (1, 19), (2, 19), (3, 19), (4, 19), (5, 19), (6, 19), (7, 19), (8, 19), (9, 19), (10, 19), (11, 19), (12, 19), (13, 19), (14, 19), (15, 19), (16, 19), (17, 19), (0, 20), (1, 20), (2, 20), (3, 20), (4, 20), (5, 20), (6, 20), (7, 20), (8, 20), (9, 20), (10, 20), (11, 20), (12, 20), (13, 20), (14, 20), (15, 20), (16, 20), (17, 20), (0, 21), (1, 21), (2, 21), (3, 21), (4, 21), (5, 21), (6, 21), (7, 21), (8, 21), (9, 21), (10, 21), (11, 21), (12, 21), (13, 21), (14, 21), (15, 21), (16, 21), (17, 21), (0, 22), (1, 22), (2, 22), (3, 22), (4, 22), (5, 22), (6, 22), (7, 22), (8, 22), (9, 22), (10, 22), (11, 22), (12, 22), (13, 22), (14, 22), (15, 22), (16, 22), (17, 22), (18, 22), (19, 22), (20, 22), (21, 22), (0, 23), (1, 23), (2, 23), (3, 23), (4, 23), (5, 23), (6, 23), (7, 23), (8, 23), (9, 23), (10, 23), (11, 23), (12, 23), (13, 23), (14, 23), (15, 23), (16, 23), (17, 23), (18, 23), (19, 23), (20, 23), (21, 23), (0, 24), (1, 24), (2, 24), (3, 24), (4, 24), (5, 24), (6, 24), (7, 24), (8, 24), (9, 24), (10, 24), (11, 24), (12, 24), (13, 24), (14, 24), (15, 24), (16, 24), (17, 24), (18, 24), (19, 24), (20, 24), (21, 24), (0, 25), (1, 25), (2, 25), (1, 26), (2, 26), (1, 27), (2, 27), (1, 28), (2, 28), (2, 29), (2, 30), (2, 31)]))))))
    (.reg [] [⟨some 109, (.binOp .add 3 (.tmp 43) (.const (.int .i64 1)) 3), 3, none⟩,
      ⟨some 43, (.move (.tmp 109)), 3, none⟩]))))))))
    (.reg [] [⟨some 31, (.move (.tmp 7)), 3, none⟩,
      ⟨some 32, (.binOp .add 3 (.tmp 31) (.const (.int .i64 1)) 3), 3, none⟩,
      ⟨some 7, (.assign (.tmp 32)), 3, none⟩]))))))
    (.seq (.reg [] [⟨some 110, (.move (.tmp 6)), 48, none⟩,
      ⟨some 4, (.assign (.tmp 110)), 48, none⟩,
      ⟨some 5, (.assign (.const (.int .i64 0))), 28, none⟩])
    .ret))))
def A104 : ACode :=
  (.seq (.reg [] [⟨some 4, (.assign (.const (.int .i64 0))), 3, none⟩])
    (.seq (.seq (.reg [] [⟨some 5, (.assign (.const (.int .i64 0))), 3, none⟩])
    (.block 0 (.loop (.seq (.seq (.reg [] [⟨some 6, (.move (.tmp 5)), 3, none⟩,
      ⟨some 7, (.move (.tmp 0)), 27, none⟩,
      ⟨some 8, (.call ⟨(.builtin .len), #[(.tmp 7)], #[27]⟩), 3, none⟩,
      ⟨some 9, (.binOp .lss 3 (.tmp 6) (.tmp 8) 3), 4, none⟩])
    (.cond (.tmp 9)
    .skip
    (.exit 0)))
    (.seq (.block 1 (.seq (.reg [] [⟨some 12, (.move (.tmp 0)), 27, none⟩,
      ⟨some 13, (.move (.tmp 5)), 3, none⟩,
      ⟨some 14, (.indexAddr 27 (.tmp 12) (.tmp 13)), 0, none⟩,
      ⟨some 15, (.load 23 (.tmp 14)), 23, none⟩,
      ⟨some 16, (.move (.tmp 1)), 23, none⟩,
      ⟨some 17, (.call ⟨(.value (.func 32)), #[(.tmp 15), (.tmp 16)], #[23, 23]⟩), 4, none⟩])
    (.cond (.tmp 17)
    (.seq (.reg [] [⟨some 18, (.move (.tmp 5)), 3, none⟩,
      ⟨some 4, (.assign (.tmp 18)), 3, none⟩])
    .ret)
    .skip)))
    (.reg [] [⟨some 10, (.move (.tmp 5)), 3, none⟩,
      ⟨some 11, (.binOp .add 3 (.tmp 10) (.const (.int .i64 1)) 3), 3, none⟩,
      ⟨some 5, (.assign (.tmp 11)), 3, none⟩]))))))
    (.seq (.reg [] [⟨some 4, (.assign (.const (.int .i64 (-1)))), 3, none⟩])
    .ret)))
theorem C104 {args : List AV} {r : AV} (hn : args.length ≤ 19) (h : vc Tryz.prog T [] A104 (Fin T [(.tmp 4)] r) ⟨envOf 0 args, []⟩) : CallP Tryz.prog 104 args r :=
  callP_of tok mixed Tryz.func104 (by kernel_rfl) (by kernel_rfl) (by kernel_rfl : Tryz.f104.ntmps = 19) (by kernel_rfl : Tryz.f104.body.bind (strip 19 (fun _ => [])) = some A104) hn h
def A59 : ACode :=
  (.seq (.reg [] [⟨some 4, (.assign (.const (.int .i64 0))), 3, none⟩])
    (.seq (.seq (.reg [] [⟨some 9, (.move (.tmp 0)), 23, none⟩,
      ⟨some 10, (.call ⟨(.builtin .len), #[(.tmp 9)], #[23]⟩), 3, none⟩,
      ⟨some 11, (.move (.const (.int .i64 0))), 3, none⟩])
    (.block 0 (.loop (.seq (.reg [] [⟨some 12, (.binOp .lss 3 (.tmp 11) (.tmp 10) 3), 0, none⟩])
    (.seq (.cond (.tmp 12)
    .skip
    (.exit 0))
    (.seq (.block 1 (.seq (.reg [] [⟨some 13, (.move (.tmp 11)), 3, none⟩,
      ⟨some 14, (.indexAddr 23 (.tmp 9) (.tmp 11)), 0, none⟩,
      ⟨some 15, (.load 3 (.tmp 14)), 3, none⟩,
      ⟨some 5, (.assign (.tmp 13)), 3, none⟩,
      ⟨some 6, (.assign (.tmp 15)), 3, none⟩])
    (.seq (.seq (.reg [] [⟨some 16, (.move (.tmp 5)), 3, none⟩,
      ⟨some 17, (.move (.tmp 1)), 23, none⟩,
      ⟨some 18, (.call ⟨(.builtin .len), #[(.tmp 17)], #[23]⟩), 3, none⟩,
      ⟨some 19, (.binOp .geq 3 (.tmp 16) (.tmp 18) 3), 4, none⟩])
    (.cond (.tmp 19)
    (.seq (.reg [] [⟨some 4, (.assign (.const (.int .i64 1))), 3, none⟩])
    .ret)
    .skip))
    (.seq (.reg [] [⟨some 20, (.move (.tmp 1)), 23, none⟩,
      ⟨some 21, (.move (.tmp 5)), 3, none⟩,
      ⟨some 22, (.indexAddr 23 (.tmp 20) (.tmp 21)), 0, none⟩,
      ⟨some 23, (.load 3 (.tmp 22)), 3, none⟩,
      ⟨some 7, (.assign (.tmp 23)), 3, none⟩])
    (.seq (.reg [] [⟨some 24, (.move (.tmp 6)), 3, none⟩,
      ⟨some 25, (.move (.tmp 7)), 3, none⟩,
      ⟨some 26, (.call ⟨(.value (.func 96)), #[(.tmp 24), (.tmp 25)], #[3, 3]⟩), 3, none⟩,
      ⟨some 8, (.assign (.tmp 26)), 3, none⟩])
    (.seq (.reg [] [⟨some 27, (.move (.tmp 8)), 3, none⟩,
      ⟨some 28, (.binOp .neq 3 (.tmp 27) (.const (.int .i64 0)) 3), 4, none⟩])
    (.cond (.tmp 28)
    (.seq (.reg [] [⟨some 29, (.move (.tmp 8)), 3, none⟩,
      ⟨some 4, (.assign (.tmp 29)), 3, none⟩])
    .ret)
    .skip)))))))
    (.reg [] [⟨some 30, (.binOp .add 3 (.tmp 11) (.const (.int .i64 1)) 3), 3, none⟩,
      ⟨some 11, (.move (.tmp 30)), 3, none⟩])))))))
    (.seq (.seq (.reg [] [⟨some 31, (.move (.tmp 0)), 23, none⟩,
      ⟨some 32, (.call ⟨(.builtin .len), #[(.tmp 31)], #[23]⟩), 3, none⟩,
      ⟨some 33, (.move (.tmp 1)), 23, none⟩,
      ⟨some 34, (.call ⟨(.builtin .len), #[(.tmp 33)], #[23]⟩), 3, none⟩,
      ⟨some 35, (.binOp .lss 3 (.tmp 32) (.tmp 34) 3), 4, none⟩])
    (.cond (.tmp 35)
    (.seq (.reg [] [⟨some 4, (.assign (.const (.int .i64 (-1)))), 3, none⟩])
    .ret)
    .skip))
    (.seq (.reg [] [⟨some 4, (.assign (.const (.int .i64 0))), 3, none⟩])
    .ret))))
theorem C59 {args : List AV} {r : AV} (hn : args.length ≤ 36) (h : vc Tryz.prog T [] A59 (Fin T [(.tmp 4)] r) ⟨envOf 0 args, []⟩) : CallP Tryz.prog 59 args r :=
  callP_of tok mixed Tryz.func59 (by kernel_rfl) (by kernel_rfl) (by kernel_rfl : Tryz.f59.ntmps = 36) (by kernel_rfl : Tryz.f59.body.bind (strip 36 (fun _ => [])) = some A59) hn h
def A60 : ACode :=
  (.seq (.reg [] [⟨some 4, (.assign (.const (.slice none 0 0))), 27, none⟩])
    (.seq (.seq (.reg [] [⟨some 8, (.move (.tmp 0)), 27, none⟩,
      ⟨some 9, (.call ⟨(.builtin .len), #[(.tmp 8)], #[27]⟩), 3, none⟩,
      ⟨some 10, (.binOp .lss 3 (.tmp 9) (.const (.int .i64 2)) 3), 4, none⟩])
    (.cond (.tmp 10)
    (.seq (.reg [] [⟨some 11, (.move (.tmp 0)), 27, none⟩,
      ⟨some 4, (.assign (.tmp 11)), 27, none⟩])
    .ret)
    .skip))
    (.seq (.seq (.reg [] [⟨some 5, (.assign (.const (.int .i64 1))), 3, none⟩])
    (.block 0 (.loop (.seq (.seq (.reg [] [⟨some 12, (.move (.tmp 5)), 3, none⟩,
      ⟨some 13, (.move (.tmp 0)), 27, none⟩,
      ⟨some 14, (.call ⟨(.builtin .len), #[(.tmp 13)], #[27]⟩), 3, none⟩,
      ⟨some 15, (.binOp .lss 3 (.tmp 12) (.tmp 14) 3), 4, none⟩])
    (.cond (.tmp 15)
    .skip
    (.exit 0)))
    (.seq (.block 1 (.seq (.draw [] [⟨some 18, (.move (.tmp 1)), 40, none⟩,
      ⟨some 19, (.move (.tmp 0)), 27, none⟩,
      ⟨some 20, (.move (.tmp 5)), 3, none⟩,
      ⟨some 21, (.indexAddr 27 (.tmp 19) (.tmp 20)), 0, none⟩,
      ⟨some 22, (.load 23 (.tmp 21)), 23, none⟩,
      ⟨some 23, (.move (.tmp 0)), 27, none⟩,
      ⟨some 24, (.move (.tmp 5)), 3, none⟩,
      ⟨some 25, (.binOp .sub 3 (.tmp 24) (.const (.int .i64 1)) 3), 3, none⟩,
      ⟨some 26, (.indexAddr 27 (.tmp 23) (.tmp 25)), 0, none⟩,
      ⟨some 27, (.load 23 (.tmp 26)), 23, none⟩,
      ⟨some 28, (.call ⟨(.value (.tmp 18)), #[(.tmp 22), (.tmp 27)], #[23, 23]⟩), 4, none⟩] [(0, 1), (0, 2), (1, 2), (0, 3), (0, 4), (0, 5), (1, 5), (2, 5), (3, 5), (4, 5), (0, 6), (1, 6), (2, 6), (3, 6), (4, 6), (5, 6), (0, 7), (1, 7), (2, 7), (3, 7), (4, 7), (5, 7), (0, 8), (1, 8), (2, 8), (3, 8), (4, 8), (0, 9), (1, 9), (2, 9), (3, 9), (4, 9)])
    (.cond (.tmp 28)
    (.seq (.reg [] [⟨some 29, (.move (.tmp 0)), 27, none⟩,
      ⟨some 30, (.move (.tmp 5)), 3, none⟩,
      ⟨some 31, (.slice 27 (.tmp 29) (some (.tmp 30)) none none), 27, none⟩,
      ⟨some 6, (.assign (.tmp 31)), 27, none⟩])
    (.seq (.seq (.reg [] [⟨some 7, (.assign (.const (.int .i64 1))), 3, none⟩])
    (.block 2 (.loop (.seq (.seq (.reg [] [⟨some 32, (.move (.tmp 7)), 3, none⟩,
      ⟨some 33, (.move (.tmp 6)), 27, none⟩,
      ⟨some 34, (.call ⟨(.builtin .len), #[(.tmp 33)], #[27]⟩), 3, none⟩,
      ⟨some 35, (.binOp .lss 3 (.tmp 32) (.tmp 34) 3), 4, none⟩])
    (.cond (.tmp 35)
    .skip
    (.exit 2)))
    (.seq (.block 3 (.seq (.draw [] [⟨some 38, (.move (.tmp 1)), 40, none⟩,
      ⟨some 39, (.move (.tmp 6)), 27, none⟩,
      ⟨some 40, (.move (.tmp 7)), 3, none⟩,
      ⟨some 41, (.indexAddr 27 (.tmp 39) (.tmp 40)), 0, none⟩,
      ⟨some 42, (.load 23 (.tmp 41)), 23, none⟩,
      ⟨some 43, (.move (.tmp 6)), 27, none⟩,
      ⟨some 44, (.move (.tmp 7)), 3, none⟩,
      ⟨some 45, (.binOp .sub 3 (.tmp 44) (.const (.int .i64 1)) 3), 3, none⟩,
      ⟨some 46, (.indexAddr 27 (.tmp 43) (.tmp 45)), 0, none⟩,
      ⟨some 47, (.load 23 (.tmp 46)), 23, none⟩,
      ⟨some 48, (.call ⟨(.value (.tmp 38)), #[(.tmp 42), (.tmp 47)], #[23, 23]⟩), 4, none⟩,
      ⟨some 49, (.unOp .not 4 (.tmp 48)), 4, none⟩] [(0, 1), (0, 2), (1, 2), (0, 3), (0, 4), (0, 5), (1, 5), (2, 5), (3, 5), (4, 5), (0, 6), (1, 6), (2, 6), (3, 6), (4, 6), (5, 6), (0, 7), (1, 7), (2, 7), (3, 7), (4, 7), (5, 7), (0, 8), (1, 8), (2, 8), (3, 8), (4, 8), (0, 9), (1, 9), (2, 9), (3, 9), (4, 9)])
    (.cond (.tmp 49)
    (.seq (.reg [] [⟨some 50, (.move (.tmp 0)), 27, none⟩,
      ⟨some 51, (.move (.tmp 5)), 3, none⟩,
      ⟨some 52, (.move (.tmp 6)), 27, none⟩,
      ⟨some 53, (.move (.tmp 7)), 3, none⟩,
      ⟨some 54, (.indexAddr 27 (.tmp 52) (.tmp 53)), 0, none⟩,
      ⟨some 55, (.load 23 (.tmp 54)), 23, none⟩,
      ⟨some 56, (.indexAddr 27 (.tmp 50) (.tmp 51)), 0, none⟩,
      ⟨none, (.store 23 (.tmp 56) (.tmp 55)), 0, none⟩])
    (.reg [] [⟨some 57, (.move (.tmp 5)), 3, none⟩,
      ⟨some 58, (.binOp .add 3 (.tmp 57) (.const (.int .i64 1)) 3), 3, none⟩,
      ⟨some 5, (.assign (.tmp 58)), 3, none⟩]))
    .skip)))
    (.reg [] [⟨some 36, (.move (.tmp 7)), 3, none⟩,
      ⟨some 37, (.binOp .add 3 (.tmp 36) (.const (.int .i64 1)) 3), 3, none⟩,
      ⟨some 7, (.assign (.tmp 37)), 3, none⟩]))))))
    (.seq (.reg [] [⟨some 59, (.move (.tmp 0)), 27, none⟩,
      ⟨some 60, (.move (.tmp 5)), 3, none⟩,
      ⟨some 61, (.slice 27 (.tmp 59) (some (.tmp 60)) none none), 27, none⟩,
      ⟨none, (.call ⟨(.builtin .clear), #[(.tmp 61)], #[27]⟩), 0, none⟩])
    (.seq (.reg [] [⟨some 62, (.move (.tmp 0)), 27, none⟩,
      ⟨some 63, (.move (.tmp 5)), 3, none⟩,
      ⟨some 64, (.slice 27 (.tmp 62) none (some (.tmp 63)) none), 27, none⟩,
      ⟨some 4, (.assign (.tmp 64)), 27, none⟩])
    .ret))))
    .skip)))
    (.reg [] [⟨some 16, (.move (.tmp 5)), 3, none⟩,
      ⟨some 17, (.binOp .add 3 (.tmp 16) (.const (.int .i64 1)) 3), 3, none⟩,
      ⟨some 5, (.assign (.tmp 17)), 3, none⟩]))))))
    (.seq (.reg [] [⟨some 65, (.move (.tmp 0)), 27, none⟩,
      ⟨some 4, (.assign (.tmp 65)), 27, none⟩])
    .ret))))
theorem CL60 {pre suf : List AV} {sz : Nat} {els els' : List AV} {r : LRet} (hn : (pre ++ .sl lid 0 0 els.length :: suf).length ≤ 66) (h : vc Tryz.prog T [] A60 (FinL T [(.tmp 4)] sz r els') ⟨envOf 0 (pre ++ .sl lid 0 0 els.length :: suf), [(lid, some ⟨sz, els, 0, false⟩)]⟩) : CallL Tryz.prog 60 pre sz els suf r els' :=
  callL_of tok mixed Tryz.func60 (by kernel_rfl) (by kernel_rfl) (by kernel_rfl : Tryz.f60.ntmps = 66) (by kernel_rfl : Tryz.f60.body.bind (strip 66 (fun _ => [])) = some A60) hn h
def A78 : ACode :=
  (.seq (.reg [] [⟨some 4, (.alloc 53), 0, none⟩,
      ⟨some 5, (.assign (.const (.bool false))), 4, none⟩])
    (.seq (.reg [] [⟨some 12, (.move (.tmp 1)), 23, none⟩,
      ⟨some 13, (.buildSlice 27 1 #[(0, (.tmp 12))]), 27, none⟩,
      ⟨some 14, (.buildSlice 23 1 #[(0, (.const (.int .i64 0)))]), 23, none⟩,
      ⟨some 15, (.build 53 #[(0, (.tmp 13)), (2, (.tmp 14))]), 53, none⟩,
      ⟨some 6, (.alloc 53), 0, none⟩,
      ⟨none, (.store 53 (.tmp 6) (.tmp 15)), 0, none⟩])
    (.seq (.seq (.reg [] [⟨some 7, (.assign (.const (.int .i64 0))), 3, none⟩])
    (.block 0 (.loop (.seq (.seq (.reg [] [⟨some 16, (.move (.tmp 7)), 3, none⟩,
      ⟨some 17, (.fieldAddr 53 (.tmp 6) 0), 0, none⟩,
      ⟨some 18, (.load 27 (.tmp 17)), 27, none⟩,
      ⟨some 19, (.call ⟨(.builtin .len), #[(.tmp 18)], #[27]⟩), 3, none⟩,
      ⟨some 20, (.binOp .lss 3 (.tmp 16) (.tmp 19) 3), 4, none⟩])
    (.cond (.tmp 20)
    .skip
    (.exit 0)))
    (.seq (.block 1 (.seq (.reg [] [⟨some 8, (.assign (.const (.slice none 0 0))), 23, none⟩])
    (.seq (.reg [] [⟨some 23, (.move (.tmp 0)), 22, none⟩,
      ⟨some 24, (.fieldAddr 53 (.tmp 6) 0), 0, none⟩,
      ⟨some 25, (.load 27 (.tmp 24)), 27, none⟩,
      ⟨some 26, (.move (.tmp 7)), 3, none⟩,
      ⟨some 27, (.indexAddr 27 (.tmp 25) (.tmp 26)), 0, none⟩,
      ⟨some 28, (.load 23 (.tmp 27)), 23, none⟩,
      ⟨some 29, (.call ⟨(.value (.func 103)), #[(.tmp 23), (.tmp 28)], #[22, 23]⟩), 27, none⟩,
      ⟨some 9, (.assign (.tmp 29)), 27, none⟩])
    (.seq (.seq (.reg [] [⟨some 10, (.assign (.const (.int .i64 0))), 3, none⟩])
    (.block 2 (.loop (.seq (.seq (.reg [] [⟨some 30, (.move (.tmp 10)), 3, none⟩,
      ⟨some 31, (.move (.tmp 9)), 27, none⟩,
      ⟨some 32, (.call ⟨(.builtin .len), #[(.tmp 31)], #[27]⟩), 3, none⟩,
      ⟨some 33, (.binOp .lss 3 (.tmp 30) (.tmp 32) 3), 4, none⟩])
    (.cond (.tmp 33)
    .skip
    (.exit 2)))
    (.seq (.block 3 (.seq (.draw [] [⟨some 36, (.fieldAddr 53 (.tmp 6) 0), 0, none⟩,
      ⟨some 37, (.load 27 (.tmp 36)), 27, none⟩,
      ⟨some 38, (.move (.tmp 9)), 27, none⟩,
      ⟨some 39, (.move (.tmp 10)), 3, none⟩,
      ⟨some 40, (.indexAddr 27 (.tmp 38) (.tmp 39)), 0, none⟩,
      ⟨some 41, (.load 23 (.tmp 40)), 23, none⟩,
      ⟨some 42, (.call ⟨(.value (.func 104)), #[(.tmp 37), (.tmp 41)], #[27, 23]⟩), 3, none⟩,
      ⟨some 11, (.assign (.tmp 42)), 3, none⟩] [(0, 2), (1, 2), (0, 3), (1, 3), (2, 3), (0, 4), (1, 4), (0, 5), (1, 5)])
    (.seq (.seq (.reg [] [⟨some 43, (.move (.tmp 11)), 3, none⟩,
      ⟨some 44, (.binOp .lss 3 (.tmp 43) (.const (.int .i64 0)) 3), 4, none⟩])
    (.cond (.tmp 44)
    (.seq (.reg [] [⟨some 45, (.fieldAddr 53 (.tmp 6) 0), 0, none⟩,
      ⟨some 46, (.load 27 (.tmp 45)), 27, none⟩,
      ⟨some 47, (.call ⟨(.builtin .len), #[(.tmp 46)], #[27]⟩), 3, none⟩,
      ⟨some 11, (.assign (.tmp 47)), 3, none⟩])
    (.seq (.seq (.reg [] [⟨some 48, (.move (.tmp 11)), 3, none⟩,
      ⟨some 49, (.binOp .eql 3 (.tmp 48) (.const (.int .i64 300)) 3), 4, none⟩])
    (.cond (.tmp 49)
    (.seq (.reg [] [⟨some 50, (.build 53 #[]), 53, none⟩,
      ⟨none, (.store 53 (.tmp 4) (.tmp 50)), 0, none⟩,
      ⟨some 5, (.assign (.const (.bool false))), 4, none⟩])
    .ret)
    .skip))
    (.seq (.draw [] [⟨some 51, (.fieldAddr 53 (.tmp 6) 0), 0, none⟩,
      ⟨some 52, (.load 27 (.tmp 51)), 27, none⟩,
      ⟨some 53, (.move (.tmp 9)), 27, none⟩,
      ⟨some 54, (.move (.tmp 10)), 3, none⟩,
      ⟨some 55, (.indexAddr 27 (.tmp 53) (.tmp 54)), 0, none⟩,
      ⟨some 56, (.load 23 (.tmp 55)), 23, none⟩,
      ⟨some 57, (.buildSlice 27 1 #[(0, (.tmp 56))]), 27, none⟩,
      ⟨some 58, (.call ⟨(.builtin .append), #[(.tmp 52), (.tmp 57)], #[27, 27]⟩), 27, none⟩,
      ⟨some 59, (.fieldAddr 53 (.tmp 6) 0), 0, none⟩,
      ⟨none, (.store 27 (.tmp 59) (.tmp 58)), 0, none⟩] [(0, 2), (1, 2), (0, 3), (1, 3), (2, 3), (0, 4), (1, 4), (0, 5), (1, 5), (0, 6), (1, 6)])
    (.draw [] [⟨some 60, (.fieldAddr 53 (.tmp 6) 2), 0, none⟩,
      ⟨some 61, (.load 23 (.tmp 60)), 23, none⟩,
      ⟨some 62, (.fieldAddr 53 (.tmp 6) 2), 0, none⟩,
      ⟨some 63, (.load 23 (.tmp 62)), 23, none⟩,
      ⟨some 64, (.move (.tmp 7)), 3, none⟩,
      ⟨some 65, (.indexAddr 23 (.tmp 63) (.tmp 64)), 0, none⟩,
      ⟨some 66, (.load 3 (.tmp 65)), 3, none⟩,
      ⟨some 67, (.binOp .add 3 (.tmp 66) (.const (.int .i64 1)) 3), 3, none⟩,
      ⟨some 68, (.buildSlice 23 1 #[(0, (.tmp 67))]), 23, none⟩,
      ⟨some 69, (.call ⟨(.builtin .append), #[(.tmp 61), (.tmp 68)], #[23, 23]⟩), 23, none⟩,
      ⟨some 70, (.fieldAddr 53 (.tmp 6) 2), 0, none⟩,
      ⟨none, (.store 23 (.tmp 70) (.tmp 69)), 0, none⟩] [(0, 2), (1, 2), (0, 3), (1, 3), (0, 4), (1, 4), (2, 4), (3, 4), (0, 5), (1, 5), (0, 6), (1, 6), (0, 7), (1, 7), (0, 8), (1, 8)]))))
    .skip))
    (.reg [] [⟨some 71, (.move (.tmp 8)), 23, none⟩,
      ⟨some 72, (.move (.tmp 11)), 3, none⟩,
      ⟨some 73, (.buildSlice 23 1 #[(0, (.tmp 72))]), 23, none⟩,
      ⟨some 74, (.call ⟨(.builtin .append), #[(.tmp 71), (.tmp 73)], #[23, 23]⟩), 23, none⟩,
      ⟨some 8, (.assign (.tmp 74)), 23, none⟩]))))
    (.reg [] [⟨some 34, (.move (.tmp 10)), 3, none⟩,
      ⟨some 35, (.binOp .add 3 (.tmp 34) (.const (.int .i64 1)) 3), 3, none⟩,
      ⟨some 10, (.assign (.tmp 35)), 3, none⟩]))))))
    (.reg [] [⟨some 75, (.fieldAddr 53 (.tmp 6) 1), 0, none⟩,
      ⟨some 76, (.load 27 (.tmp 75)), 27, none⟩,
      ⟨some 77, (.move (.tmp 8)), 23, none⟩,
      ⟨some 78, (.buildSlice 27 1 #[(0, (.tmp 77))]), 27, none⟩,
      ⟨some 79, (.call ⟨(.builtin .append), #[(.tmp 76), (.tmp 78)], #[27, 27]⟩), 27, none⟩,
      ⟨some 80, (.fieldAddr 53 (.tmp 6) 1), 0, none⟩,
      ⟨none, (.store 27 (.tmp 80) (.tmp 79)), 0, none⟩])))))
    (.reg [] [⟨some 21, (.move (.tmp 7)), 3, none⟩,
      ⟨some 22, (.binOp .add 3 (.tmp 21) (.const (.int .i64 1)) 3), 3, none⟩,
      ⟨some 7, (.assign (.tmp 22)), 3, none⟩]))))))
    (.seq (.reg [] [⟨some 81, (.load 53 (.tmp 6)), 53, none⟩,
      ⟨none, (.store 53 (.tmp 4) (.tmp 81)), 0, none⟩,
      ⟨some 5, (.assign (.const (.bool true))), 4, none⟩])
    .ret))))
def A105 : ACode :=
  (.seq (.reg [] [⟨some 4, (.assign (.const (.bool false))), 4, none⟩])
    (.seq (.seq (.reg [] [⟨some 5, (.assign (.const (.int .i64 0))), 3, none⟩])
    (.block 0 (.loop (.seq (.seq (.reg [] [⟨some 6, (.move (.tmp 5)), 3, none⟩,
      ⟨some 7, (.move (.tmp 0)), 23, none⟩,
      ⟨some 8, (.call ⟨(.builtin .len), #[(.tmp 7)], #[23]⟩), 3, none⟩,
      ⟨some 9, (.binOp .lss 3 (.tmp 6) (.tmp 8) 3), 4, none⟩,
      ⟨some 10, (.move (.tmp 9)), 4, none⟩,
      ⟨some 11, (.move (.tmp 5)), 3, some (10, true)⟩,
      ⟨some 12, (.move (.tmp 1)), 23, some (10, true)⟩,
      ⟨some 13, (.call ⟨(.builtin .len), #[(.tmp 12)], #[23]⟩), 3, some (10, true)⟩,
      ⟨some 14, (.binOp .lss 3 (.tmp 11) (.tmp 13) 3), 4, some (10, true)⟩,
      ⟨some 15, (.pick (.tmp 10) (.tmp 14) (.const (.bool false))), 4, none⟩])
    (.cond (.tmp 15)
    .skip
    (.exit 0)))
    (.seq (.block 1 (.seq (.draw [] [⟨some 18, (.move (.tmp 0)), 23, none⟩,
      ⟨some 19, (.move (.tmp 5)), 3, none⟩,
      ⟨some 20, (.indexAddr 23 (.tmp 18) (.tmp 19)), 0, none⟩,
      ⟨some 21, (.load 3 (.tmp 20)), 3, none⟩,
      ⟨some 22, (.move (.tmp 1)), 23, none⟩,
      ⟨some 23, (.move (.tmp 5)), 3, none⟩,
      ⟨some 24, (.indexAddr 23 (.tmp 22) (.tmp 23)), 0, none⟩,
      ⟨some 25, (.load 3 (.tmp 24)), 3, none⟩,
      ⟨some 26, (.binOp .neq 3 (.tmp 21) (.tmp 25) 3), 4, none⟩] [(0, 1), (0, 4), (1, 4), (2, 4), (3, 4), (0, 5), (1, 5), (2, 5), (3, 5), (4, 5), (0, 6), (1, 6), (2, 6), (3, 6), (0, 7), (1, 7), (2, 7), (3, 7)])
    (.cond (.tmp 26)
    (.seq (.draw [] [⟨some 27, (.move (.tmp 0)), 23, none⟩,
      ⟨some 28, (.move (.tmp 5)), 3, none⟩,
      ⟨some 29, (.indexAddr 23 (.tmp 27) (.tmp 28)), 0, none⟩,
      ⟨some 30, (.load 3 (.tmp 29)), 3, none⟩,
      ⟨some 31, (.move (.tmp 1)), 23, none⟩,
      ⟨some 32, (.move (.tmp 5)), 3, none⟩,
      ⟨some 33, (.indexAddr 23 (.tmp 31) (.tmp 32)), 0, none⟩,
      ⟨some 34, (.load 3 (.tmp 33)), 3, none⟩,
      ⟨some 35, (.binOp .lss 3 (.tmp 30) (.tmp 34) 3), 4, none⟩,
      ⟨some 4, (.assign (.tmp 35)), 4, none⟩] [(0, 1), (0, 4), (1, 4), (2, 4), (3, 4), (0, 5), (1, 5), (2, 5), (3, 5), (4, 5), (0, 6), (1, 6), (2, 6), (3, 6), (0, 7), (1, 7), (2, 7), (3, 7)])
    .ret)
    .skip)))
    (.reg [] [⟨some 16, (.move (.tmp 5)), 3, none⟩,
      ⟨some 17, (.binOp .add 3 (.tmp 16) (.const (.int .i64 1)) 3), 3, none⟩,
      ⟨some 5, (.assign (.tmp 17)), 3, none⟩]))))))
    (.seq (.reg [] [⟨some 36, (.move (.tmp 0)), 23, none⟩,
      ⟨some 37, (.call ⟨(.builtin .len), #[(.tmp 36)], #[23]⟩), 3, none⟩,
      ⟨some 38, (.move (.tmp 1)), 23, none⟩,
      ⟨some 39, (.call ⟨(.builtin .len), #[(.tmp 38)], #[23]⟩), 3, none⟩,
      ⟨some 40, (.binOp .lss 3 (.tmp 37) (.tmp 39) 3), 4, none⟩,
      ⟨some 4, (.assign (.tmp 40)), 4, none⟩])
    .ret)))
theorem C105 {args : List AV} {r : AV} (hn : args.length ≤ 41) (h : vc Tryz.prog T [] A105 (Fin T [(.tmp 4)] r) ⟨envOf 0 args, []⟩) : CallP Tryz.prog 105 args r :=
  callP_of tok mixed Tryz.func105 (by kernel_rfl) (by kernel_rfl) (by kernel_rfl : Tryz.f105.ntmps = 41) (by kernel_rfl : Tryz.f105.body.bind (strip 41 (fun _ => [])) = some A105) hn h
def A96 : ACode :=
  (.seq (.reg [] [⟨some 4, (.assign (.const (.int .i64 0))), 3, none⟩])
    (.seq (.reg [] [⟨some 7, (.move (.tmp 0)), 3, none⟩,
      ⟨some 8, (.call ⟨(.value (.func 141)), #[(.tmp 7)], #[3]⟩), 4, none⟩,
      ⟨some 5, (.assign (.tmp 8)), 4, none⟩])
    (.seq (.reg [] [⟨some 9, (.move (.tmp 1)), 3, none⟩,
      ⟨some 10, (.call ⟨(.value (.func 141)), #[(.tmp 9)], #[3]⟩), 4, none⟩,
      ⟨some 6, (.assign (.tmp 10)), 4, none⟩])
    (.seq (.seq (.reg [] [⟨some 11, (.move (.tmp 5)), 4, none⟩])
    (.cond (.tmp 11)
    (.seq (.seq (.reg [] [⟨some 12, (.move (.tmp 6)), 4, none⟩])
    (.cond (.tmp 12)
    (.seq (.reg [] [⟨some 4, (.assign (.const (.int .i64 0))), 3, none⟩])
    .ret)
    .skip))
    (.seq (.reg [] [⟨some 4, (.assign (.const (.int .i64 (-1)))), 3, none⟩])
    .ret))
    .skip))
    (.seq (.seq (.reg [] [⟨some 13, (.move (.tmp 6)), 4, none⟩])
    (.cond (.tmp 13)
    (.seq (.reg [] [⟨some 4, (.assign (.const (.int .i64 1))), 3, none⟩])
    .ret)
    .skip))
    (.seq (.seq (.reg [] [⟨some 14, (.move (.tmp 0)), 3, none⟩,
      ⟨some 15, (.move (.tmp 1)), 3, none⟩,
      ⟨some 16, (.binOp .lss 3 (.tmp 14) (.tmp 15) 3), 4, none⟩])
    (.cond (.tmp 16)
    (.seq (.reg [] [⟨some 4, (.assign (.const (.int .i64 (-1)))), 3, none⟩])
    .ret)
    .skip))
    (.seq (.seq (.reg [] [⟨some 17, (.move (.tmp 0)), 3, none⟩,
      ⟨some 18, (.move (.tmp 1)), 3, none⟩,
      ⟨some 19, (.binOp .gtr 3 (.tmp 17) (.tmp 18) 3), 4, none⟩])
    (.cond (.tmp 19)
    (.seq (.reg [] [⟨some 4, (.assign (.const (.int .i64 1))), 3, none⟩])
    .ret)
    .skip))
    (.seq (.reg [] [⟨some 4, (.assign (.const (.int .i64 0))), 3, none⟩])
    .ret))))))))
theorem C96 {args : List AV} {r : AV} (hn : args.length ≤ 20) (h : vc Tryz.prog T [] A96 (Fin T [(.tmp 4)] r) ⟨envOf 0 args, []⟩) : CallP Tryz.prog 96 args r :=
  callP_of tok mixed Tryz.func96 (by kernel_rfl) (by kernel_rfl) (by kernel_rfl : Tryz.f96.ntmps = 20) (by kernel_rfl : Tryz.f96.body.bind (strip 20 (fun _ => [])) = some A96) hn h
def A141 : ACode :=
  (.seq (.reg [] [⟨some 2, (.assign (.const (.bool false))), 4, none⟩])
    (.seq (.reg [] [⟨some 3, (.move (.tmp 0)), 3, none⟩,
      ⟨some 4, (.move (.tmp 0)), 3, none⟩,
      ⟨some 5, (.binOp .neq 3 (.tmp 3) (.tmp 4) 3), 4, none⟩,
      ⟨some 2, (.assign (.tmp 5)), 4, none⟩])
    .ret))
theorem C141 {args : List AV} {r : AV} (hn : args.length ≤ 6) (h : vc Tryz.prog T [] A141 (Fin T [(.tmp 2)] r) ⟨envOf 0 args, []⟩) : CallP Tryz.prog 141 args r :=
  callP_of tok mixed Tryz.func141 (by kernel_rfl) (by kernel_rfl) (by kernel_rfl : Tryz.f141.ntmps = 6) (by kernel_rfl : Tryz.f141.body.bind (strip 6 (fun _ => [])) = some A141) hn h

end Go.Proofs.YtkhddecnllcaiaaGreat
end

section
/- Contracts: keys of words. -/
namespace Go.Proofs.YtkhddecnllcaiaaGreat
open Go.Abs Go
set_option maxRecDepth 20000
set_option maxHeartbeats 2000000
attribute [local irreducible] PreK CondK CallK CallG CallX LoopK
attribute [local simp] avsEq avEq akind teq vkind vEq
attribute [simp] T_9 T_12 T_13 T_21 T_114 T_187 T_48 T_57 T_59 T_60 T_52 T_53 T_88 T_89 T_119 T_137 T_145 T_147 T_171 T_175 T_192 T_214

def b8 (x : Int) : AV := .raw (.int .u8 (48 + x))
theorem bytesOf_b8 : ∀ w : List Int, bytesOf (w.map b8) = some (w.map fun x => 48 + x)
  | [] => rfl
  | x :: w => by simp [bytesOf, b8, bytesOf_b8 w]
theorem key_c (w : List Int) (hl : w.length ≤ 1000) (hw : fine w) : CallP Tryz.prog 65 [ints w] (keyV w) := by
  refine C65 (by simp) ?_
  simp [A65]
  refine LoopK.by (ι := Nat × Nat) (fun i => ⟨[(8, iv i.1), (7, iv w.length), (6, ints w), (3, .sl 3 i.2 0 i.1)], [(3, some ⟨1, (w.take i.1).map b8, i.2, false⟩)]⟩) (fun i => w.length - i.1)
    (fun i => i.1 ≤ w.length) (0, 1) (by simp) (by simp) ?_
  intro ⟨i, ver⟩ Q' hi hq he hr
  dsimp only at hi
  try simp 
  refine CondK.intro (fun h1 => ?_) (fun h1 => ?_)
  · simp at h1
    have hx := hw (el w i) (el_mem_of w i h1)
    have hwr : IntKind.u8.wrap (48 + el w i) = 48 + el w i := by
      simp [IntKind.wrap, IntKind.bits, IntKind.signed]
      omega
    try simp [h1]
    repeat' (first
      | ((with_reducible refine PreK.intro ?_ ?_); (next => (first | omega | (intros; first | omega | (refine ⟨by omega, ?_⟩; repeat (first | assumption | constructor)) | assumption))); intro _; try simp [h1])
      | fail)
    refine hq (i + 1, ver + 1) _ (by dsimp only; omega) (by dsimp only; omega) ?_
    have e : (w.take (i + 1)).map b8 = (w.take i).map b8 ++ [b8 (el w i)] := by rw [take_succ w i h1, List.map_append]; rfl
    simp [hwr]
    refine .inl ?_
    simp only [← List.map_take, List.take_take, Nat.min_self, e]
    rfl
  · simp at h1
    have hil : i = w.length := by omega
    subst hil
    try simp 
    apply he
    have hb := bytesOf_b8 w
    try simp 
    repeat (refine PreK.intro (by first | omega | (intros; first | omega | (refine ⟨by omega, ?_⟩; simp_all; done) | (simp_all; done) | (simp_all; omega))) fun _ => ?_; (try simp [hb]))
    rfl
end Go.Proofs.YtkhddecnllcaiaaGreat
end

section
/- PURSE -/
/- Contracts: what a word reaches. -/
namespace Go.Proofs.YtkhddecnllcaiaaGreat
open Go.Abs Go
set_option maxRecDepth 20000
set_option maxHeartbeats 8000000
attribute [local irreducible] PreK CondK CallK CallG CallX LoopK
attribute [local simp] avsEq avEq akind teq vkind vEq

theorem CF75 {args : List AV} {r : AV} (hn : args.length ≤ 111) (h : vc Tryz.prog T [] A75 (FinF T [(.tmp 4), (.tmp 5)] r) ⟨envOf 0 args, []⟩) : CallP Tryz.prog 75 args r :=
  callPF_of tok mixed Tryz.func75 (by kernel_rfl) (by kernel_rfl) (by kernel_rfl : Tryz.f75.ntmps = 111) (by kernel_rfl : Tryz.f75.body.bind (strip 111 (fun _ => [])) = some A75) hn h
def graphV (s : List Rule) (g : Gr) : AV := .agg [rulesV s, wordsV g.ws, .map (entsF 0 g.ws), ints g.frm, stepsV g.stp]
def reachV (s : List Rule) : Option Gr → AV
  | none => .tup [.raw (.pointer none), iv 3]
  | some g => .tup [.ipt (graphV s g) 0, iv 0]
def gV (k : Bool) (s : List Rule) (g : Gr) : AV := .agg [rulesV s, .seq 1 (g.ws.map ints) k, .map (entsF 0 g.ws), .seq 1 (g.frm.map iv) k, .seq 2 (g.stp.map stepV) k]
def reachX (s : List Rule) : Option Gr → AV
  | none => .tup [.raw (.pointer none), iv 3]
  | some g => .tup [.ipt (gV (decide (g.ws.length = 1)) s g) 0, iv 0]
def boxT (s : List Rule) (g : Gr) : List (Nat × Option Box) := [(23, some ⟨5, [.agg [rulesV s, .seq 1 (g.ws.map ints) true, .mp 15 1, .seq 1 (g.frm.map iv) true, .seq 2 (g.stp.map stepV) true]], 1, true⟩), (15, some ⟨0, entsF 0 g.ws, 1, false⟩)]
def boxF (s : List Rule) (g : Gr) (v : Nat) : List (Nat × Option Box) := [(23, some ⟨5, [.agg [rulesV s, .sl 87 v 0 g.ws.length, .mp 15 1, .sl 94 v 0 g.frm.length, .sl 102 v 0 g.stp.length]], 1, true⟩), (15, some ⟨0, entsF 0 g.ws, 1, false⟩), (87, some ⟨1, g.ws.map ints, v, false⟩), (94, some ⟨1, g.frm.map iv, v, false⟩), (102, some ⟨2, g.stp.map stepV, v, false⟩)]
attribute [local simp] boxT boxF entsF
theorem reach_x (s : List Rule) (w : List Int) (h : Sys.small s) (hs : sysErr s = 0) (hw : wordErr w = 0) : CallP Tryz.prog 75 [rulesV s, ints w] (reachX s (reachG s w)) := by
  refine CF75 (by simp) ?_
  have hkw := key_c w (by have := (wordErr_zero hw).1; omega) (fine_of hw)
  generalize hR : reachG s w = R
  unfold reachG at hR
  have hok0 := Gr.start hw
  have hk0 : decide ((⟨[w], [-1], [⟨0, 0⟩]⟩ : Gr).ws.length = 1) = true := rfl
  generalize hg0 : (⟨[w], [-1], [⟨0, 0⟩]⟩ : Gr) = g0 at hR hok0 hk0
  simp [A75]
  try simp 
  repeat' (first
    | (refine CallX.pure (hkw) (by simp) (by simp) ?_; try simp )
    | (refine CallK.intro (hkw) (by simp) (by simp) ?_; try simp )
    | (refine CallG.intro (fun _ => hkw) (by simp) (by simp) ?_; try simp )
    | ((with_reducible refine PreK.intro ?_ ?_); (next => (first | omega | (intros; first | omega | (refine ⟨by omega, ?_⟩; repeat (first | assumption | constructor)) | assumption))); intro _; try simp )
    | fail)
  refine PreK.intro (by simp [big]) fun _ => ?_
  try simp 
  try simp 
  repeat' (first
    | ((with_reducible refine PreK.intro ?_ ?_); (next => (first | omega | (intros; first | omega | (refine ⟨by omega, ?_⟩; repeat (first | assumption | constructor)) | assumption))); intro _; try simp )
    | fail)
  refine LoopK.by (ι := Bool × Nat × Nat × Gr) (fun x => match x with
      | (true, i, _, g) => ⟨[(7, iv i), (6, .pt 23 1 0 0), (0, rulesV s)], boxT s g⟩
      | (false, i, v, g) => ⟨[(7, iv i), (6, .pt 23 1 0 0), (0, rulesV s)], boxF s g v⟩)
    (fun x => 400 - x.2.1) (fun x => (decide (x.2.2.2.ws.length = 1) = x.1) ∧ x.2.2.2.ok ∧ x.2.1 ≤ x.2.2.2.ws.length ∧ closeG s (301 - x.2.1) x.2.1 x.2.2.2 = R) (true, 0, 0, g0) ⟨hk0, hok0, by simp, hR⟩ (by subst hg0; simp) ?_
  intro ⟨kd, i, v, g⟩ Q' ⟨hk, hok, hi, hc⟩ hq he hr
  dsimp only at hk hok hi hc
  have hnum := hok.num
  have hfl := hok.frm
  have hsl := hok.stp
  obtain ⟨n, hn⟩ : ∃ n, 301 - i = n + 1 := ⟨300 - i, by omega⟩
  rw [hn, closeG] at hc
  by_cases hi2 : i < g.ws.length
  · rw [if_pos hi2] at hc
    have hui := hok.fine _ (el_mem_of g.ws i hi2)
    have hmc := moves_c s (el g.ws i) h hs hui
    have hmr := fun m hm => @moves_right s (el g.ws i) hs hui m hm
    have hml := movesM_len hs hui
    generalize movesM s (el g.ws i) = ms at hmc hmr hc hml
    generalize hRA : addG i g ms = RA at hc
    cases kd
    · try simp 
      refine CondK.intro (fun h1 => ?_) (fun h1 => ?_)
      · repeat (refine PreK.intro (by first | omega | (intros; first | omega | (refine ⟨by omega, ?_⟩; simp_all; done) | (simp_all; done) | (simp_all; omega))) fun _ => ?_; (try simp [hi2]))
        try simp [hi2]
        repeat' (first
          | (refine CallX.pure (hmc) (by simp) (by simp) ?_; try simp [hi2])
          | (refine CallK.intro (hmc) (by simp) (by simp) ?_; try simp [hi2])
          | (refine CallG.intro (fun _ => hmc) (by simp) (by simp) ?_; try simp [hi2])
          | ((with_reducible refine PreK.intro ?_ ?_); (next => (first | omega | (intros; first | omega | (refine ⟨by omega, ?_⟩; repeat (first | assumption | constructor)) | assumption))); intro _; try simp [hi2])
          | fail)
        refine LoopK.by (ι := Nat × Nat × Gr) (fun x => ⟨[(43, iv x.1), (42, iv ms.length), (41, movesV ms), (7, iv i), (6, .pt 23 1 0 0), (0, rulesV s)], boxF s x.2.2 x.2.1⟩)
          (fun x => ms.length - x.1) (fun x => (decide (x.2.2.ws.length = 1) = false) ∧ x.2.2.ok ∧ i + 1 ≤ x.2.2.ws.length ∧ addG i x.2.2 (ms.drop x.1) = RA) (0, v, g) ⟨hk, hok, hi2, hRA⟩ (by simp) ?_
        intro ⟨j, v', g'⟩ Q'' ⟨hk', hok', hi', ha⟩ hq' he' hr'
        dsimp only at hk' hok' hi' ha
        try simp 
        refine CondK.intro (fun h2 => ?_) (fun h2 => ?_)
        · simp at h2
          have hmw := hmr (el ms j) (el_mem_of ms j h2)
          rw [drop_cons ms j h2, addG] at ha
          have hkc := key_c (el ms j).word (by have := (wordErr_zero hmw).1; omega) (fine_of hmw)
          repeat (refine PreK.intro (by first | omega | (intros; first | omega | (refine ⟨by omega, ?_⟩; simp_all; done) | (simp_all; done) | (simp_all; omega))) fun _ => ?_; (try simp [h2]))
          by_cases hmem : (el ms j).word ∈ g'.ws
          · obtain ⟨q, q1, q2, q3⟩ := mfind_some (k := 0) (j := 0) (fun x hx => fine_of (hok'.fine x hx)) hmem
            rw [if_pos hmem] at ha
            refine CallK.intro (by simpa using hkc) (by simp) (by simp) ?_
            try simp [q3, keysOK_ents]
            repeat (refine PreK.intro (by first | omega | (intros; first | omega | (refine ⟨by omega, ?_⟩; simp_all; done) | (simp_all; done) | (simp_all; omega))) fun _ => ?_; (try simp [q3, keysOK_ents]))
            refine CondK.intro (fun h3 => ?_) (fun h3 => ?_)
            · repeat (refine PreK.intro (by first | omega | (intros; first | omega | (refine ⟨by omega, ?_⟩; simp_all; done) | (simp_all; done) | (simp_all; omega))) fun _ => ?_; (try simp ))
              exact hq' (j + 1, v', g') _ ⟨hk', hok', hi', ha⟩ (by dsimp only; omega) (by simp)
            · simp at h3
          · have q3 := mfind_none (k := 0) (j := 0) (fun x hx => fine_of (hok'.fine x hx)) (fine_of hmw) hmem
            rw [if_neg hmem] at ha
            refine CallK.intro (by simpa using hkc) (by simp) (by simp) ?_
            try simp [q3, keysOK_ents]
            repeat (refine PreK.intro (by first | omega | (intros; first | omega | (refine ⟨by omega, ?_⟩; simp_all; done) | (simp_all; done) | (simp_all; omega))) fun _ => ?_; (try simp [q3, keysOK_ents]))
            refine CondK.intro (fun h3 => ?_) (fun h3 => ?_)
            · simp at h3
            · repeat (refine PreK.intro (by first | omega | (intros; first | omega | (refine ⟨by omega, ?_⟩; simp_all; done) | (simp_all; done) | (simp_all; omega))) fun _ => ?_; (try simp ))
              by_cases h300 : g'.ws.length = 300
              · rw [if_pos h300] at ha
                subst ha
                refine CondK.intro (fun h4 => ?_) (fun h4 => ?_)
                · try simp 
                  apply hr'
                  apply hr
                  refine ⟨[], ?_⟩
                  simp [reachX, ← hc]
                · simp at h4; omega
              · rw [if_neg h300] at ha
                have hlen1 := hok'.num
                have hlen2 := hok'.frm
                have hlen3 := hok'.stp
                refine CondK.intro (fun h4 => ?_) (fun h4 => ?_)
                · simp at h4; omega
                · repeat (refine PreK.intro (by first | omega | (intros; first | omega | (refine ⟨by omega, ?_⟩; simp_all; done) | (simp_all; done) | (simp_all; omega))) fun _ => ?_; (try simp ))
                  refine CallK.intro (by simpa using hkc) (by simp) (by simp) ?_
                  try simp [q3, keysOK_ents, entsF_len]
                  refine PreK.intro (by simp only [big]; omega) fun _ => ?_
                  try simp 
                  repeat (refine PreK.intro (by first | omega | (intros; first | omega | (refine ⟨by omega, ?_⟩; simp_all; done) | (simp_all; done) | (simp_all; omega))) fun _ => ?_; (try simp [q3, keysOK_ents, entsF_len]))
                  refine hq' (j + 1, v' + 1, ⟨g'.ws ++ [(el ms j).word], g'.frm ++ [(i : Int)], g'.stp ++ [(el ms j).step]⟩) _ ⟨by have := hok'.some; simp only [decide_eq_false_iff_not, List.length_append, List.length_cons, List.length_nil]; omega, hok'.push hmw h300, by simp; omega, ha⟩ (by dsimp only; omega) (by simp [q3, entsF_push])
        · simp at h2
          rw [List.drop_eq_nil_of_le (by omega), addG] at ha
          subst ha
          try simp 
          apply he'
          try simp 
          repeat' (first
            | ((with_reducible refine PreK.intro ?_ ?_); (next => (first | omega | (intros; first | omega | (refine ⟨by omega, ?_⟩; repeat (first | assumption | constructor)) | assumption))); intro _; try simp )
            | fail)
          exact hq (false, i + 1, v', g') _ ⟨hk', hok', hi', by dsimp only; rw [show 301 - (i + 1) = n by omega]; exact hc⟩ (by dsimp only; omega) (by simp)
      · simp at h1
        omega
    · try simp 
      refine CondK.intro (fun h1 => ?_) (fun h1 => ?_)
      · repeat (refine PreK.intro (by first | omega | (intros; first | omega | (refine ⟨by omega, ?_⟩; simp_all; done) | (simp_all; done) | (simp_all; omega))) fun _ => ?_; (try simp [hi2]))
        try simp [hi2]
        repeat' (first
          | (refine CallX.pure (hmc) (by simp) (by simp) ?_; try simp [hi2])
          | (refine CallK.intro (hmc) (by simp) (by simp) ?_; try simp [hi2])
          | (refine CallG.intro (fun _ => hmc) (by simp) (by simp) ?_; try simp [hi2])
          | ((with_reducible refine PreK.intro ?_ ?_); (next => (first | omega | (intros; first | omega | (refine ⟨by omega, ?_⟩; repeat (first | assumption | constructor)) | assumption))); intro _; try simp [hi2])
          | fail)
        refine LoopK.by (ι := Bool × Nat × Nat × Gr) (fun x => match x with
            | (true, j, _, g') => ⟨[(43, iv j), (42, iv ms.length), (41, movesV ms), (7, iv i), (6, .pt 23 1 0 0), (0, rulesV s)], boxT s g'⟩
            | (false, j, v', g') => ⟨[(43, iv j), (42, iv ms.length), (41, movesV ms), (7, iv i), (6, .pt 23 1 0 0), (0, rulesV s)], boxF s g' v'⟩)
          (fun x => ms.length - x.2.1) (fun x => (decide (x.2.2.2.ws.length = 1) = x.1) ∧ x.2.2.2.ok ∧ i + 1 ≤ x.2.2.2.ws.length ∧ addG i x.2.2.2 (ms.drop x.2.1) = RA) (true, 0, v, g) ⟨hk, hok, hi2, hRA⟩ (by simp) ?_
        intro ⟨kd', j, v', g'⟩ Q'' ⟨hk', hok', hi', ha⟩ hq' he' hr'
        dsimp only at hk' hok' hi' ha
        cases kd'
        · try simp 
          refine CondK.intro (fun h2 => ?_) (fun h2 => ?_)
          · simp at h2
            have hmw := hmr (el ms j) (el_mem_of ms j h2)
            rw [drop_cons ms j h2, addG] at ha
            have hkc := key_c (el ms j).word (by have := (wordErr_zero hmw).1; omega) (fine_of hmw)
            repeat (refine PreK.intro (by first | omega | (intros; first | omega | (refine ⟨by omega, ?_⟩; simp_all; done) | (simp_all; done) | (simp_all; omega))) fun _ => ?_; (try simp [h2]))
            by_cases hmem : (el ms j).word ∈ g'.ws
            · obtain ⟨q, q1, q2, q3⟩ := mfind_some (k := 0) (j := 0) (fun x hx => fine_of (hok'.fine x hx)) hmem
              rw [if_pos hmem] at ha
              refine CallK.intro (by simpa using hkc) (by simp) (by simp) ?_
              try simp [q3, keysOK_ents]
              repeat (refine PreK.intro (by first | omega | (intros; first | omega | (refine ⟨by omega, ?_⟩; simp_all; done) | (simp_all; done) | (simp_all; omega))) fun _ => ?_; (try simp [q3, keysOK_ents]))
              refine CondK.intro (fun h3 => ?_) (fun h3 => ?_)
              · repeat (refine PreK.intro (by first | omega | (intros; first | omega | (refine ⟨by omega, ?_⟩; simp_all; done) | (simp_all; done) | (simp_all; omega))) fun _ => ?_; (try simp ))
                exact hq' (false, j + 1, v', g') _ ⟨hk', hok', hi', ha⟩ (by dsimp only; omega) (by simp)
              · simp at h3
            · have q3 := mfind_none (k := 0) (j := 0) (fun x hx => fine_of (hok'.fine x hx)) (fine_of hmw) hmem
              rw [if_neg hmem] at ha
              refine CallK.intro (by simpa using hkc) (by simp) (by simp) ?_
              try simp [q3, keysOK_ents]
              repeat (refine PreK.intro (by first | omega | (intros; first | omega | (refine ⟨by omega, ?_⟩; simp_all; done) | (simp_all; done) | (simp_all; omega))) fun _ => ?_; (try simp [q3, keysOK_ents]))
              refine CondK.intro (fun h3 => ?_) (fun h3 => ?_)
              · simp at h3
              · repeat (refine PreK.intro (by first | omega | (intros; first | omega | (refine ⟨by omega, ?_⟩; simp_all; done) | (simp_all; done) | (simp_all; omega))) fun _ => ?_; (try simp ))
                by_cases h300 : g'.ws.length = 300
                · rw [if_pos h300] at ha
                  subst ha
                  refine CondK.intro (fun h4 => ?_) (fun h4 => ?_)
                  · try simp 
                    apply hr'
                    apply hr
                    refine ⟨[], ?_⟩
                    simp [reachX, ← hc]
                  · simp at h4; omega
                · rw [if_neg h300] at ha
                  have hlen1 := hok'.num
                  have hlen2 := hok'.frm
                  have hlen3 := hok'.stp
                  refine CondK.intro (fun h4 => ?_) (fun h4 => ?_)
                  · simp at h4; omega
                  · repeat (refine PreK.intro (by first | omega | (intros; first | omega | (refine ⟨by omega, ?_⟩; simp_all; done) | (simp_all; done) | (simp_all; omega))) fun _ => ?_; (try simp ))
                    refine CallK.intro (by simpa using hkc) (by simp) (by simp) ?_
                    try simp [q3, keysOK_ents, entsF_len]
                    refine PreK.intro (by simp only [big]; omega) fun _ => ?_
                    try simp 
                    repeat (refine PreK.intro (by first | omega | (intros; first | omega | (refine ⟨by omega, ?_⟩; simp_all; done) | (simp_all; done) | (simp_all; omega))) fun _ => ?_; (try simp [q3, keysOK_ents, entsF_len]))
                    refine hq' (false, j + 1, v' + 1, ⟨g'.ws ++ [(el ms j).word], g'.frm ++ [(i : Int)], g'.stp ++ [(el ms j).step]⟩) _ ⟨by have := hok'.some; simp only [decide_eq_false_iff_not, List.length_append, List.length_cons, List.length_nil]; omega, hok'.push hmw h300, by simp; omega, ha⟩ (by dsimp only; omega) (by simp [q3, entsF_push])
          · simp at h2
            rw [List.drop_eq_nil_of_le (by omega), addG] at ha
            subst ha
            try simp 
            apply he'
            try simp 
            repeat' (first
              | ((with_reducible refine PreK.intro ?_ ?_); (next => (first | omega | (intros; first | omega | (refine ⟨by omega, ?_⟩; repeat (first | assumption | constructor)) | assumption))); intro _; try simp )
              | fail)
            exact hq (false, i + 1, v', g') _ ⟨hk', hok', hi', by dsimp only; rw [show 301 - (i + 1) = n by omega]; exact hc⟩ (by dsimp only; omega) (by simp)
        · try simp 
          refine CondK.intro (fun h2 => ?_) (fun h2 => ?_)
          · simp at h2
            have hmw := hmr (el ms j) (el_mem_of ms j h2)
            rw [drop_cons ms j h2, addG] at ha
            have hkc := key_c (el ms j).word (by have := (wordErr_zero hmw).1; omega) (fine_of hmw)
            repeat (refine PreK.intro (by first | omega | (intros; first | omega | (refine ⟨by omega, ?_⟩; simp_all; done) | (simp_all; done) | (simp_all; omega))) fun _ => ?_; (try simp [h2]))
            by_cases hmem : (el ms j).word ∈ g'.ws
            · obtain ⟨q, q1, q2, q3⟩ := mfind_some (k := 0) (j := 0) (fun x hx => fine_of (hok'.fine x hx)) hmem
              rw [if_pos hmem] at ha
              refine CallK.intro (by simpa using hkc) (by simp) (by simp) ?_
              try simp [q3, keysOK_ents]
              repeat (refine PreK.intro (by first | omega | (intros; first | omega | (refine ⟨by omega, ?_⟩; simp_all; done) | (simp_all; done) | (simp_all; omega))) fun _ => ?_; (try simp [q3, keysOK_ents]))
              refine CondK.intro (fun h3 => ?_) (fun h3 => ?_)
              · repeat (refine PreK.intro (by first | omega | (intros; first | omega | (refine ⟨by omega, ?_⟩; simp_all; done) | (simp_all; done) | (simp_all; omega))) fun _ => ?_; (try simp ))
                exact hq' (true, j + 1, v', g') _ ⟨hk', hok', hi', ha⟩ (by dsimp only; omega) (by simp)
              · simp at h3
            · have q3 := mfind_none (k := 0) (j := 0) (fun x hx => fine_of (hok'.fine x hx)) (fine_of hmw) hmem
              rw [if_neg hmem] at ha
              refine CallK.intro (by simpa using hkc) (by simp) (by simp) ?_
              try simp [q3, keysOK_ents]
              repeat (refine PreK.intro (by first | omega | (intros; first | omega | (refine ⟨by omega, ?_⟩; simp_all; done) | (simp_all; done) | (simp_all; omega))) fun _ => ?_; (try simp [q3, keysOK_ents]))
              refine CondK.intro (fun h3 => ?_) (fun h3 => ?_)
              · simp at h3
              · repeat (refine PreK.intro (by first | omega | (intros; first | omega | (refine ⟨by omega, ?_⟩; simp_all; done) | (simp_all; done) | (simp_all; omega))) fun _ => ?_; (try simp ))
                by_cases h300 : g'.ws.length = 300
                · rw [if_pos h300] at ha
                  subst ha
                  refine CondK.intro (fun h4 => ?_) (fun h4 => ?_)
                  · try simp 
                    apply hr'
                    apply hr
                    refine ⟨[], ?_⟩
                    simp [reachX, ← hc]
                  · simp at h4; omega
                · rw [if_neg h300] at ha
                  have hlen1 := hok'.num
                  have hlen2 := hok'.frm
                  have hlen3 := hok'.stp
                  refine CondK.intro (fun h4 => ?_) (fun h4 => ?_)
                  · simp at h4; omega
                  · repeat (refine PreK.intro (by first | omega | (intros; first | omega | (refine ⟨by omega, ?_⟩; simp_all; done) | (simp_all; done) | (simp_all; omega))) fun _ => ?_; (try simp ))
                    refine CallK.intro (by simpa using hkc) (by simp) (by simp) ?_
                    try simp [q3, keysOK_ents, entsF_len]
                    refine PreK.intro (by simp only [big]; omega) fun _ => ?_
                    try simp 
                    repeat (refine PreK.intro (by first | omega | (intros; first | omega | (refine ⟨by omega, ?_⟩; simp_all; done) | (simp_all; done) | (simp_all; omega))) fun _ => ?_; (try simp [q3, keysOK_ents, entsF_len]))
                    refine hq' (false, j + 1, 1, ⟨g'.ws ++ [(el ms j).word], g'.frm ++ [(i : Int)], g'.stp ++ [(el ms j).step]⟩) _ ⟨by have := hok'.some; simp only [decide_eq_false_iff_not, List.length_append, List.length_cons, List.length_nil]; omega, hok'.push hmw h300, by simp; omega, ha⟩ (by dsimp only; omega) (by simp [q3, entsF_push])
          · simp at h2
            rw [List.drop_eq_nil_of_le (by omega), addG] at ha
            subst ha
            try simp 
            apply he'
            try simp 
            repeat' (first
              | ((with_reducible refine PreK.intro ?_ ?_); (next => (first | omega | (intros; first | omega | (refine ⟨by omega, ?_⟩; repeat (first | assumption | constructor)) | assumption))); intro _; try simp )
              | fail)
            exact hq (true, i + 1, v', g') _ ⟨hk', hok', hi', by dsimp only; rw [show 301 - (i + 1) = n by omega]; exact hc⟩ (by dsimp only; omega) (by simp)
      · simp at h1
        omega
  · rw [if_neg hi2] at hc
    cases kd
    · try simp 
      refine CondK.intro (fun h1 => ?_) (fun h1 => ?_)
      · simp at h1
        omega
      · try simp 
        apply he
        try simp 
        refine ⟨[87, 94, 102, 15, 23], ?_⟩
        simp [reachX, gV, ← hc, hk]
    · try simp 
      refine CondK.intro (fun h1 => ?_) (fun h1 => ?_)
      · simp at h1
        omega
      · try simp 
        apply he
        try simp 
        refine ⟨[15, 23], ?_⟩
        simp [reachX, gV, ← hc, hk]
end Go.Proofs.YtkhddecnllcaiaaGreat
end

section
/- The library's sort of words, over a lent box. -/
namespace Go.Proofs.YtkhddecnllcaiaaGreat
open Go.Abs Go

/-! ### lists of words in order -/
/-- No later one comes before an earlier one. -/
def inOrder (l : List (List Int)) : Prop := l.Pairwise fun a b => bef b a = false
theorem order_same : ∀ {l m : List (List Int)}, l.Perm m → inOrder l → inOrder m → l = m
  | [], m, h, _, _ => by simpa using h.symm
  | x :: l, [], h, _, _ => by simp at h
  | x :: l, y :: m, h, hl, hm => by
    unfold inOrder at hl hm
    rw [List.pairwise_cons] at hl hm
    have hxy : x = y := by
      apply Classical.byContradiction
      intro hne
      have hx : x ∈ m := by
        rcases List.mem_cons.1 (h.mem_iff.1 (List.mem_cons_self)) with e | e
        · exact absurd e hne
        · exact e
      have hy : y ∈ l := by
        rcases List.mem_cons.1 (h.mem_iff.2 (List.mem_cons_self)) with e | e
        · exact absurd e.symm hne
        · exact e
      have h1 := hl.1 y hy
      have h2 := hm.1 x hx
      rcases bef_total hne with e | e
      · rw [e] at h2; cases h2
      · rw [e] at h1; cases h1
    subst hxy
    rw [order_same (List.Perm.cons_inv h) hl.2 hm.2]
def insO (w : List Int) : List (List Int) → List (List Int)
  | [] => [w]
  | x :: l => if bef x w then x :: insO w l else w :: x :: l
/-- The words in ascending order. -/
def sortW : List (List Int) → List (List Int)
  | [] => []
  | x :: l => insO x (sortW l)
theorem insO_perm (w : List Int) : ∀ l : List (List Int), (insO w l).Perm (w :: l)
  | [] => List.Perm.refl _
  | x :: l => by
    rw [insO]
    split
    · exact ((insO_perm w l).cons x).trans (List.Perm.swap w x l)
    · exact List.Perm.refl _
theorem sortW_perm : ∀ l : List (List Int), (sortW l).Perm l
  | [] => List.Perm.refl _
  | x :: l => (insO_perm x (sortW l)).trans ((sortW_perm l).cons x)
theorem bef_flip {a b : List Int} (h : bef a b = true) : bef b a = false := bef_asymm h
theorem bef_no_trans {a b c : List Int} (h : bef b a = false) (k : bef c b = false) : bef c a = false := by
  cases hc : bef c a with
  | false => rfl
  | true =>
    by_cases e1 : a = b
    · subst e1; rw [k] at hc; cases hc
    · by_cases e2 : b = c
      · subst e2; rw [h] at hc; cases hc
      · rcases bef_total e1 with e | e
        · have := bef_trans hc e
          rw [this] at k; cases k
        · rw [e] at h; cases h
theorem insO_order {w : List Int} : ∀ {l : List (List Int)}, inOrder l → inOrder (insO w l)
  | [], _ => by simp [insO, inOrder]
  | x :: l, h => by
    unfold inOrder at h
    rw [List.pairwise_cons] at h
    rw [insO]
    split
    · rename_i hb
      unfold inOrder
      rw [List.pairwise_cons]
      refine ⟨fun y hy => ?_, insO_order h.2⟩
      rcases List.mem_cons.1 ((insO_perm w l).mem_iff.1 hy) with rfl | hy
      · exact bef_flip hb
      · exact h.1 y hy
    · rename_i hb
      have hb' : bef x w = false := by simpa using hb
      unfold inOrder
      rw [List.pairwise_cons]
      refine ⟨fun y hy => ?_, by rw [List.pairwise_cons]; exact h⟩
      rcases List.mem_cons.1 hy with rfl | hy
      · exact hb'
      · exact bef_no_trans hb' (h.1 y hy)
theorem sortW_order : ∀ l : List (List Int), inOrder (sortW l)
  | [] => by simp [sortW, inOrder]
  | x :: l => insO_order (sortW_order l)

/-- How two words compare. -/
def cmpW (a b : List Int) : Int := if a = b then 0 else if bef a b then -1 else 1

/-! ### the library's sort -/
section
open Go.Sort Go.Shelf
variable {P : Program} {ρ : Ren}

/-- A word and the value that reads so. -/
abbrev Cell (w : World) (Y : Nat → Prop) := { p : List Int × Value // Rep w Y Mu.none (ints p.1) p.2 }
instance {w : World} {Y : Nat → Prop} : Inhabited (Cell w Y) := ⟨⟨([], .slice none 0 0), .nil⟩⟩
def cellV {w : World} {Y : Nat → Prop} (x : Cell w Y) : Value := x.1.2
def cellC {w : World} {Y : Nat → Prop} (x y : Cell w Y) : Int := cmpW x.1.1 y.1.1
theorem cellV_one {w : World} {Y : Nat → Prop} : OneCell (cellV (w := w) (Y := Y)) := by
  intro ⟨⟨l, v⟩, h⟩
  unfold cellV
  simp only [ints] at h ⊢
  generalize l.map iv = m at h
  cases h <;> rfl
theorem cell_big {w : World} {Y : Nat → Prop} {l : List Int} {v : Value} (h : Rep w Y Mu.none (ints l) v) : l.length ≤ big := by
  simp only [ints] at h
  have e : l.length = (l.map iv).length := by simp
  rw [e]
  generalize l.map iv = m at h
  cases h with
  | nil => simp
  | seq hY hb hc hf hbig hfit hw h1 h => exact hbig
theorem cellC_lt {w : World} {Y : Nat → Prop} (x y : Cell w Y) : ltOf cellC x y = bef x.1.1 y.1.1 := by
  unfold ltOf cellC cmpW
  by_cases h : x.1.1 = y.1.1
  · rw [if_pos h, h, bef_irr]; simp
  · rw [if_neg h]
    cases bef x.1.1 y.1.1 <;> simp
theorem cell_swo {w : World} {Y : Nat → Prop} : SWO (ltOf (cellC (w := w) (Y := Y))) := by
  refine ⟨fun x => ?_, fun x y z h1 h2 => ?_, fun x y z h1 h2 => ?_⟩
  · rw [cellC_lt, bef_irr]
  · rw [cellC_lt] at h1 h2 ⊢
    exact bef_trans h1 h2
  · rw [cellC_lt] at h1 h2 ⊢
    exact bef_no_trans h2 h1
theorem grows_eq {w w' : World} (h : Grows w w') : w' = Go.Sort.grow (w.drewN (w'.drawn - w.drawn)) (w'.heap.extract w.heap.size w'.heap.size) := by
  obtain ⟨⟨h1, h2⟩, h3, h4, h5, h6⟩ := h
  cases w
  cases w'
  unfold Go.Sort.grow World.drewN
  simp only at h1 h2 h3 h4 h5 h6 ⊢
  simp only [World.mk.injEq]
  refine ⟨?_, h3, by omega, h1, h4⟩
  apply Array.ext_getElem?
  intro k
  rw [Array.getElem?_append]
  split
  · rename_i hk; exact h6 k hk
  · rename_i hk
    rw [Array.getElem?_extract]
    split
    · congr 1; omega
    · rename_i h7
      rw [Array.getElem?_eq_none (by omega)]
theorem sortWorld_other {α : Type} [Inhabited α] {enc : α → Value} {w : World} {blk off m : Nat} {dk : Array α} {os : Array Obj} {b : Nat} (hb : b < w.heap.size) (hne : b ≠ blk) : (Go.Proofs.sortWorld enc w blk off m dk os).heap[b]? = w.heap[b]? := by
  unfold Go.Proofs.sortWorld Go.Sort.grow Go.Sort.putRow Go.Sort.mapBlock Go.Sort.ahead
  simp only
  rw [Array.getElem?_append_left (by simpa using hb), Array.getElem?_modify, if_neg (Ne.symm hne)]
theorem sortWorld_at {α : Type} [Inhabited α] {enc : α → Value} {w : World} {blk off m : Nat} {dk : Array α} {os : Array Obj} {c : Array Value} {e : TypeId} {fr : Nat × Nat} (hb : w.heap[blk]? = some (.cells c e fr)) : (Go.Proofs.sortWorld enc w blk off m dk os).heap[blk]? = some (.cells (Go.Sort.putCells enc off dk c) e fr) := by
  have hlt := lt_of_heap hb
  unfold Go.Proofs.sortWorld Go.Sort.grow Go.Sort.putRow Go.Sort.mapBlock Go.Sort.ahead
  simp only
  rw [Array.getElem?_append_left (by simpa using hlt), Array.getElem?_modify, if_pos rfl, hb]
  rfl
theorem sortWorld_size {α : Type} [Inhabited α] {enc : α → Value} {w : World} {blk off m : Nat} {dk : Array α} {os : Array Obj} : w.heap.size ≤ (Go.Proofs.sortWorld enc w blk off m dk os).heap.size := by
  unfold Go.Proofs.sortWorld Go.Sort.grow Go.Sort.putRow Go.Sort.mapBlock Go.Sort.ahead
  simp
theorem putCells_getD {α : Type} [Inhabited α] {enc : α → Value} {off : Nat} {d : Array α} {c : Array Value} {k : Nat} (hk : k < c.size) : (Go.Sort.putCells enc off d c).getD k undef = if off ≤ k ∧ k < off + d.size then enc d[k - off]! else c.getD k undef := by
  unfold Go.Sort.putCells
  simp [Array.getD, hk]
/-- The library's sort of words, over a lent row. -/
theorem callL_sort (L : SlLaysF.n6 P ρ) {g : FuncId} (hg : ∀ a b : List Int, a.length ≤ big → b.length ≤ big → CallP P g [ints a, ints b] (iv (cmpW a b))) (d : List (List Int)) :
    CallL P (ρ.f 6) [] 1 (d.map ints) [.fn g [] []] (.val (.tup [])) ((sortW d).map ints) := by
  have hsl : (sortW d).length = d.length := (sortW_perm d).length_eq
  refine ⟨?_, fun w X l vs hv hsz hX hXl hh hlen hargs => ?_⟩
  · obtain ⟨nm, hn, hf⟩ := L.f6
    exact ⟨_, hf, by simpa using hn, by simp [SlBodyF.n6]⟩
  obtain ⟨v0, v1, rfl⟩ : ∃ v0 v1, vs = #[v0, v1] := by
    cases vs with
    | mk l =>
      match l, hlen with
      | [a, b], _ => exact ⟨a, b, rfl⟩
  have h0 : Rep w (Yof X (mu1 l)) (mu1 l) (.sl lid 0 0 (d.map ints).length) v0 := hargs 0 (by simp)
  have h1 : Rep w (Yof X (mu1 l)) (mu1 l) (.fn g [] []) v1 := hargs 1 (by simp)
  generalize hn : (d.map ints).length = n at h0
  simp only [List.length_map] at hn
  cases h1 with
  | @fn _ _ _ _ fs cs hs ht _ _ =>
  obtain rfl : fs = #[] := Array.eq_empty_of_size_eq_zero hs
  obtain rfl : cs = #[] := Array.eq_empty_of_size_eq_zero ht
  cases h0 with
  | slOld hm hv' =>
    simp only [mu1, if_true, Option.some.injEq] at hm
    subst hm
    omega
  | slNil hm hv' =>
    obtain rfl : d = [] := List.eq_nil_of_length_eq_zero hn
    refine (AnyF.slices_SortFunc_none (P := P) (ρ := ρ) { L with } _ 0 _ w).mono fun e w' ⟨he, hw⟩ => ?_
    subst hw
    exact ⟨_, he, Ext.refl _ _, hh, .tup rfl fun i hi => absurd hi (by simp)⟩
  | @sl _ _ _ _ _ cap loc g0 n0 hm hv' hb hc hfit hz =>
    simp only [mu1, if_true, Option.some.injEq] at hm
    subst hm
    subst hn
    obtain ⟨hbig, hh⟩ := hh
    rw [hb] at hh
    obtain ⟨c, el, hheap, hcs, hlen', hone, hrep⟩ := hh.1 (by simp)
    rw [hsz] at hfit
    simp only [Nat.zero_mul, Nat.add_zero, Nat.zero_add, Nat.mul_one, List.length_map, hsz] at hfit hlen' ⊢
    let Y : Nat → Prop := Yof X (mu1 l)
    have hY0 : Y g0 := .inr (blks_mu1.2 ⟨n0, hb⟩)
    have hYlt : ∀ b, Y b → b < w.heap.size := by
      rintro b (hx | hx)
      · exact hX b hx
      · obtain ⟨n, hn⟩ := blks_mu1.1 hx
        rw [hb] at hn
        simp only [Option.some.injEq, Prod.mk.injEq] at hn
        rw [← hn.1]
        exact lt_of_heap hheap
    have hcell : ∀ i : Fin d.length, Rep w Y Mu.none (ints d[i]) (c.getD (l.base + i) undef) := by
      intro i
      have := (hrep i (by simp)).2
      simp only [List.getD_eq_getElem?_getD, List.getElem?_map, List.getElem?_eq_getElem i.2, Option.map_some, Option.getD_some, Nat.mul_one, if_false, Bool.false_eq_true] at this
      exact this
    let arr : Array (Cell w Y) := Array.ofFn (n := d.length) fun i => ⟨(d[i], c.getD (l.base + i) undef), hcell i⟩
    have harr : arr.size = d.length := Array.size_ofFn
    have hget : ∀ i (hi : i < d.length), arr[i]! = ⟨(d[i], c.getD (l.base + i) undef), hcell ⟨i, hi⟩⟩ := by
      intro i hi
      rw [getElem!_pos arr i (by rw [harr]; exact hi)]
      exact Array.getElem_ofFn ..
    have hwords : arr.toList.map (fun x => x.1.1) = d := by
      apply List.ext_getElem
      · rw [List.length_map, Array.length_toList, harr]
      · intro i h1 h2
        rw [List.getElem_map, Array.getElem_toList, ← getElem!_pos arr i (by rw [harr]; exact h2), hget i h2]
    have hmono : ∀ {m : Nat} {dk : Array (Cell w Y)} {os : Array Obj} {a : AV} {v : Value}, Rep w Y Mu.none a v → Rep (Go.Proofs.sortWorld cellV w g0 l.base m dk os) Y Mu.none a v := by
      intro m dk os a v h
      refine h.mono (fun b hb' hlt => ⟨hb', sortWorld_other hlt ?_⟩) (Mu.later.refl _)
      rintro rfl
      exact hb' hY0
    have hkey := Any.slices_SortFunc L (cellV (w := w) (Y := Y)) cellV_one cellC cell_swo g #[] g0 l.base cap arr w ?_ ?_ ?_ (lt_of_heap hheap) ?_
    · rw [harr] at hkey
      refine hkey.mono fun e w' ⟨he, d', n, os, hp, hs, hw⟩ => ?_
      obtain ⟨hp1, _, hp2⟩ := hp
      rw [harr] at hp1
      have hd' : d'.toList.map (fun x => x.1.1) = sortW d := by
        refine order_same ?_ ?_ (sortW_order d)
        · have e1 : d'.extract 0 d.length = d' := by rw [← hp1]; exact Array.extract_size
          have e2 : arr.extract 0 d.length = arr := by rw [← harr]; exact Array.extract_size
          rw [e1, e2] at hp2
          exact ((hp2.map (fun x => x.1.1)).trans (by rw [hwords])).trans (sortW_perm d).symm
        · unfold inOrder
          rw [List.pairwise_map, List.pairwise_iff_getElem]
          intro i j hi hj hij
          have := hs i j (Nat.zero_le _) hij (by simpa [hp1] using hj)
          rw [cellC_lt, getElem!_pos d' j (by simpa using hj), getElem!_pos d' i (by simpa using hi)] at this
          simpa using this
      subst hw
      refine ⟨_, he, ⟨⟨rfl, ?_⟩, rfl, rfl, sortWorld_size, fun b hlt hno => sortWorld_other hlt ?_⟩, ⟨by simpa [hsl] using hbig, ?_⟩, .tup rfl fun i hi => absurd hi (by simp)⟩
      · exact Nat.le_add_right _ _
      · rintro rfl
        exact hno (blks_mu1.2 ⟨n0, hb⟩)
      · rw [hb]
        refine ⟨fun _ => ⟨_, el, sortWorld_at hheap, by simpa [Go.Sort.putCells] using hcs, by simpa [hsl] using hlen', fun j hj => ?_, fun i hi => ?_⟩, fun h => by cases h⟩
        · rw [putCells_getD (by omega)]
          split
          · exact cellV_one _
          · exact hone j hj
        · have hi' : i < d.length := by simpa [hsl] using hi
          have hi2 : i < d'.toList.length := by simpa [hp1] using hi'
          have e3 : (List.map ints (sortW d)).getD i .junk = ints (d'[i]!).1.1 := by
            rw [← hd', List.map_map, List.getD_eq_getElem?_getD, List.getElem?_map, List.getElem?_eq_getElem hi2, getElem!_pos d' i (by simpa using hi2)]
            simp
          rw [e3]
          have hi3 : i < d'.size := by rw [hp1]; exact hi'
          have hlt : l.base + i * 1 < c.size := by rw [hcs]; omega
          refine ⟨rfl, ?_⟩
          show Rep _ _ Mu.none _ ((Go.Sort.putCells cellV l.base d' c).getD (l.base + i * 1) undef)
          rw [putCells_getD hlt, if_pos (by omega), show l.base + i * 1 - l.base = i by omega]
          exact hmono (d'[i]!).2
    · intro args w1
      obtain ⟨fn, hf, hname, hbody⟩ := (hg [] [] (by simp) (by simp)).1
      cases hb2 : fn.body with
      | none => exact absurd hb2 hbody
      | some code => exact enters_of hf (by simpa using hname) hb2 args w1
    · intro m os dk hdk x y
      refine ((hg x.1.1 y.1.1 (cell_big x.2) (cell_big y.2)).2 _ Y _ (fun b hb' => Nat.lt_of_lt_of_le (hYlt b hb') sortWorld_size) rfl fun i hi => ?_).mono ?_
      · match i, hi with
        | 0, _ => exact hmono x.2
        | 1, _ => exact hmono y.2
      · rintro e w' ⟨v, he, hgw, hr⟩
        obtain ⟨rfl, _⟩ := hr.one
        exact ⟨he, _, _, grows_eq hgw⟩
    · intro j hj
      rw [harr] at hj
      rw [hget j hj]
      have hlt : l.base + j < c.size := by omega
      refine ⟨?_, ?_⟩
      · unfold World.cell?
        simp only [hheap]
        simp [cellV, Array.getD, hlt]
      · unfold World.frozen?
        simp [hheap]
    · rw [harr]
      simp only [List.length_map, big] at hbig
      omega
end
end Go.Proofs.YtkhddecnllcaiaaGreat
end

section
/- The library's sort of words at this program: where its functions and types stand (written by the kit's tool lay-plain), and its contract. -/
namespace Go.Proofs.YtkhddecnllcaiaaGreat
open Go.Abs Go Go.Shelf
def lsort_ren : Go.Shelf.Ren := ⟨fun | 6 => 58 | 15 => 89 | 14 => 95 | 28 => 123 | 29 => 124 | 20 => 133 | 21 => 134 | 22 => 135 | 23 => 136 | 24 => 137 | 25 => 138 | 26 => 139 | 27 => 140 | 46 => 168 | 47 => 156 | 48 => 157 | 49 => 169 | 50 => 170 | 57 => 184 | n => n, fun | 22 => 27 | 24 => 23 | 25 => 82 | 3 => 3 | 39 => 114 | 0 => 0 | 53 => 145 | 55 => 147 | 4 => 4 | 46 => 138 | 45 => 137 | 50 => 63 | 5 => 5 | 9 => 9 | 66 => 171 | 70 => 175 | 76 => 192 | 77 => 193 | n => n, fun | n => n⟩
theorem lsort : Go.Proofs.SlLaysF.n6 Tryz.prog lsort_ren := {
  mixed := by kernel_rfl
  f6 := ⟨Tryz.f58.name, by decide, Tryz.func58.trans (congrArg some (by kernel_rfl))⟩
  f14 := ⟨Tryz.f95.name, by decide, Tryz.func95.trans (congrArg some (by kernel_rfl))⟩
  f15 := Tryz.func89.trans (congrArg some (by kernel_rfl))
  f20 := ⟨Tryz.f133.name, by decide, Tryz.func133.trans (congrArg some (by kernel_rfl))⟩
  f21 := ⟨Tryz.f134.name, by decide, Tryz.func134.trans (congrArg some (by kernel_rfl))⟩
  f22 := ⟨Tryz.f135.name, by decide, Tryz.func135.trans (congrArg some (by kernel_rfl))⟩
  f23 := ⟨Tryz.f136.name, by decide, Tryz.func136.trans (congrArg some (by kernel_rfl))⟩
  f24 := ⟨Tryz.f137.name, by decide, Tryz.func137.trans (congrArg some (by kernel_rfl))⟩
  f25 := ⟨Tryz.f138.name, by decide, Tryz.func138.trans (congrArg some (by kernel_rfl))⟩
  f26 := ⟨Tryz.f139.name, by decide, Tryz.func139.trans (congrArg some (by kernel_rfl))⟩
  f27 := ⟨Tryz.f140.name, by decide, Tryz.func140.trans (congrArg some (by kernel_rfl))⟩
  f28 := Tryz.func123.trans (congrArg some (by kernel_rfl))
  f29 := Tryz.func124.trans (congrArg some (by kernel_rfl))
  f46 := ⟨Tryz.f168.name, by decide, Tryz.func168.trans (congrArg some (by kernel_rfl))⟩
  f47 := Tryz.func156.trans (congrArg some (by kernel_rfl))
  f48 := Tryz.func157.trans (congrArg some (by kernel_rfl))
  f49 := ⟨Tryz.f169.name, by decide, Tryz.func169.trans (congrArg some (by kernel_rfl))⟩
  f50 := ⟨Tryz.f170.name, by decide, Tryz.func170.trans (congrArg some (by kernel_rfl))⟩
  f57 := ⟨Tryz.f184.name, by decide, Tryz.func184.trans (congrArg some (by kernel_rfl))⟩
  t0 := Tryz.underlying0
  a0 := Tryz.isAgg0
  z0 := Tryz.sizeOf0
  v0 := Tryz.zeroValue0
  t3 := Tryz.underlying3
  a3 := Tryz.isAgg3
  z3 := Tryz.sizeOf3
  v3 := Tryz.zeroValue3
  t4 := Tryz.underlying4
  a4 := Tryz.isAgg4
  z4 := Tryz.sizeOf4
  v4 := Tryz.zeroValue4
  t5 := Tryz.underlying5
  a5 := Tryz.isAgg5
  z5 := Tryz.sizeOf5
  v5 := Tryz.zeroValue5
  t9 := Tryz.underlying9
  a9 := Tryz.isAgg9
  z9 := Tryz.sizeOf9
  v9 := Tryz.zeroValue9
  t22 := Tryz.underlying27
  a22 := Tryz.isAgg27
  z22 := Tryz.sizeOf27
  v22 := Tryz.zeroValue27
  a24 := Tryz.isAgg23
  z24 := Tryz.sizeOf23
  t25 := Tryz.underlying82
  a25 := Tryz.isAgg82
  z25 := Tryz.sizeOf82
  v25 := Tryz.zeroValue82
  t39 := Tryz.underlying114
  a39 := Tryz.isAgg114
  z39 := Tryz.sizeOf114
  v39 := Tryz.zeroValue114
  t45 := Tryz.underlying137
  a45 := Tryz.isAgg137
  z45 := Tryz.sizeOf137
  v45 := Tryz.zeroValue137
  t46 := Tryz.underlying138
  a46 := Tryz.isAgg138
  z46 := Tryz.sizeOf138
  v46 := Tryz.zeroValue138
  t50 := Tryz.underlying63
  a50 := Tryz.isAgg63
  z50 := Tryz.sizeOf63
  v50 := Tryz.zeroValue63
  t53 := Tryz.underlying145
  a53 := Tryz.isAgg145
  z53 := Tryz.sizeOf145
  v53 := Tryz.zeroValue145
  t55 := Tryz.underlying147
  a55 := Tryz.isAgg147
  z55 := Tryz.sizeOf147
  v55 := Tryz.zeroValue147
  t66 := Tryz.underlying171
  a66 := Tryz.isAgg171
  z66 := Tryz.sizeOf171
  v66 := Tryz.zeroValue171
  t70 := Tryz.underlying175
  a70 := Tryz.isAgg175
  z70 := Tryz.sizeOf175
  v70 := Tryz.zeroValue175
  t76 := Tryz.underlying192
  a76 := Tryz.isAgg192
  z76 := Tryz.sizeOf192
  v76 := Tryz.zeroValue192
  t77 := Tryz.underlying193
  a77 := Tryz.isAgg193
  z77 := Tryz.sizeOf193
  v77 := Tryz.zeroValue193 }
end Go.Proofs.YtkhddecnllcaiaaGreat
end

section
/- Contracts: comparing and sorting words. -/
namespace Go.Proofs.YtkhddecnllcaiaaGreat
open Go.Abs Go
set_option maxRecDepth 20000
set_option maxHeartbeats 2000000
attribute [local irreducible] PreK CondK CallK CallG CallX LoopK
attribute [local simp] avsEq avEq akind teq vkind vEq

theorem isNaN_c (a : Int) : CallP Tryz.prog 141 [iv a] (bv false) := by
  refine C141 (by simp) ?_
  simp [A141]
def cmpI (a b : Int) : Int := if a < b then -1 else if b < a then 1 else 0
theorem cmpInt_c (a b : Int) : CallP Tryz.prog 96 [iv a, iv b] (iv (cmpI a b)) := by
  refine C96 (by simp) ?_
  simp [A96]
  try simp 
  repeat' (first
    | (refine CallX.pure (isNaN_c a) (by simp) (by simp) ?_; try simp )
    | (refine CallK.intro (isNaN_c a) (by simp) (by simp) ?_; try simp )
    | (refine CallG.intro (fun _ => isNaN_c a) (by simp) (by simp) ?_; try simp )
    | (refine CallX.pure (isNaN_c b) (by simp) (by simp) ?_; try simp )
    | (refine CallK.intro (isNaN_c b) (by simp) (by simp) ?_; try simp )
    | (refine CallG.intro (fun _ => isNaN_c b) (by simp) (by simp) ?_; try simp )
    | ((with_reducible refine PreK.intro ?_ ?_); (next => (first | omega | (intros; first | omega | (refine ⟨by omega, ?_⟩; repeat (first | assumption | constructor)) | assumption))); intro _; try simp )
    | fail)
  refine CondK.intro (fun h1 => ?_) (fun h1 => ?_)
  · simp at h1
  · try simp 
    repeat' (first
      | ((with_reducible refine PreK.intro ?_ ?_); (next => (first | omega | (intros; first | omega | (refine ⟨by omega, ?_⟩; repeat (first | assumption | constructor)) | assumption))); intro _; try simp )
      | fail)
    refine CondK.intro (fun h2 => ?_) (fun h2 => ?_)
    · simp at h2
    · try simp 
      repeat' (first
        | ((with_reducible refine PreK.intro ?_ ?_); (next => (first | omega | (intros; first | omega | (refine ⟨by omega, ?_⟩; repeat (first | assumption | constructor)) | assumption))); intro _; try simp )
        | fail)
      refine CondK.intro (fun h3 => ?_) (fun h3 => ?_)
      · simp at h3
        simp [cmpI, h3]
      · simp at h3
        try simp 
        repeat' (first
          | ((with_reducible refine PreK.intro ?_ ?_); (next => (first | omega | (intros; first | omega | (refine ⟨by omega, ?_⟩; repeat (first | assumption | constructor)) | assumption))); intro _; try simp )
          | fail)
        refine CondK.intro (fun h4 => ?_) (fun h4 => ?_)
        · simp at h4
          simp [cmpI, h4, show ¬ a < b by omega]
        · simp at h4
          simp [cmpI, show ¬ a < b by omega, show ¬ b < a by omega]
theorem cmpW_nil : cmpW [] [] = 0 := rfl
theorem cmpW_short (y : Int) (m : List Int) : cmpW [] (y :: m) = -1 := by simp [cmpW, bef]
theorem cmpW_long (x : Int) (l : List Int) : cmpW (x :: l) [] = 1 := by simp [cmpW, bef]
theorem cmpW_cons (x y : Int) (l m : List Int) : cmpW (x :: l) (y :: m) = if cmpI x y ≠ 0 then cmpI x y else cmpW l m := by
  unfold cmpW cmpI
  by_cases h : x = y
  · subst h; simp [bef]
  · by_cases h2 : x < y
    · simp [bef, h, h2]
    · have : y < x := by omega
      simp [bef, h, h2, this]
theorem Compare_c (a b : List Int) (ha : a.length ≤ big) (hb : b.length ≤ big) : CallP Tryz.prog 59 [ints a, ints b] (iv (cmpW a b)) := by
  refine C59 (by simp) ?_
  generalize hR : cmpW a b = R
  simp [A59]
  simp only [big] at ha hb
  refine LoopK.by (fun i : Nat => ⟨[(11, iv i), (10, iv a.length), (9, ints a), (0, ints a), (1, ints b)], []⟩) (fun i => a.length - i) (fun i => i ≤ a.length ∧ i ≤ b.length ∧ cmpW (a.drop i) (b.drop i) = R) 0 (by simpa using hR) (by simp) ?_
  intro i Q' ⟨hi, hib, hc⟩ hq he hr
  try simp 
  refine CondK.intro (fun h1 => ?_) (fun h1 => ?_)
  · simp at h1
    rw [drop_cons a i h1] at hc
    try simp [h1]
    repeat' (first
      | ((with_reducible refine PreK.intro ?_ ?_); (next => (first | omega | (intros; first | omega | (refine ⟨by omega, ?_⟩; repeat (first | assumption | constructor)) | assumption))); intro _; try simp [h1])
      | fail)
    refine CondK.intro (fun h2 => ?_) (fun h2 => ?_)
    · simp at h2
      rw [List.drop_eq_nil_of_le (show b.length ≤ i by omega), cmpW_long] at hc
      try simp 
      apply hr
      simp [hc]
    · simp at h2
      rw [drop_cons b i (by omega), cmpW_cons] at hc
      try simp [h2, h1]
      repeat' (first
        | (refine CallX.pure (cmpInt_c (el a i) (el b i)) (by simp) (by simp) ?_; try simp [h2, h1])
        | (refine CallK.intro (cmpInt_c (el a i) (el b i)) (by simp) (by simp) ?_; try simp [h2, h1])
        | (refine CallG.intro (fun _ => cmpInt_c (el a i) (el b i)) (by simp) (by simp) ?_; try simp [h2, h1])
        | ((with_reducible refine PreK.intro ?_ ?_); (next => (first | omega | (intros; first | omega | (refine ⟨by omega, ?_⟩; repeat (first | assumption | constructor)) | assumption))); intro _; try simp [h2, h1])
        | fail)
      refine CondK.intro (fun h3 => ?_) (fun h3 => ?_)
      · simp at h3
        rw [if_pos h3] at hc
        try simp 
        apply hr
        simp [hc]
      · simp at h3
        rw [if_neg (by simpa using h3)] at hc
        try simp 
        repeat' (first
          | ((with_reducible refine PreK.intro ?_ ?_); (next => (first | omega | (intros; first | omega | (refine ⟨by omega, ?_⟩; repeat (first | assumption | constructor)) | assumption))); intro _; try simp )
          | fail)
        exact hq (i + 1) _ ⟨by omega, by omega, hc⟩ (by omega) (by simp)
  · simp at h1
    rw [List.drop_eq_nil_of_le (by omega)] at hc
    try simp 
    apply he
    try simp 
    refine CondK.intro (fun h2 => ?_) (fun h2 => ?_)
    · simp at h2
      rw [drop_cons b i (by omega), cmpW_short] at hc
      simp [hc]
    · simp at h2
      rw [List.drop_eq_nil_of_le (by omega), cmpW_nil] at hc
      simp [hc]

/-- A list whose equal neighbours are one. -/
def compF (p : List Int) : List (List Int) → List (List Int)
  | [] => []
  | y :: l => if y = p then compF p l else y :: compF y l
def compW : List (List Int) → List (List Int)
  | [] => []
  | x :: l => x :: compF x l
theorem compF_num : ∀ (p : List Int) (l : List (List Int)), (compF p l).length ≤ l.length
  | p, [] => by simp [compF]
  | p, y :: l => by
    rw [compF]
    split
    · have := compF_num p l; simp; omega
    · have := compF_num y l; simp; omega
end Go.Proofs.YtkhddecnllcaiaaGreat
end

section
/- Contracts: equal neighbours left out, and the sort of words. -/
namespace Go.Proofs.YtkhddecnllcaiaaGreat
open Go.Abs Go
set_option maxRecDepth 20000
set_option maxHeartbeats 2000000
attribute [local irreducible] PreK CondK CallK CallG CallX LoopK
attribute [local simp] avsEq avEq akind teq vkind vEq

theorem take_setG {α : Type} [Inhabited α] (o : List α) (i : Nat) (v : α) (hi : i < o.length) : (o.set i v).take (i + 1) = o.take i ++ [v] := by
  rw [take_succ _ i (by simpa using hi)]
  have : el (o.set i v) i = v := by unfold el; simp [hi]
  rw [this, List.take_set, List.set_eq_of_length_le (by simp; omega)]
theorem compact_L (l : List (List Int)) (hl : l.length ≤ 1000) (hw : ∀ w ∈ l, w.length ≤ 1000) :
    CallL Tryz.prog 60 [] 1 (l.map ints) [.fn 49 [] []] (.part (compW l).length) ((compW l).map ints ++ List.replicate (l.length - (compW l).length) (.seq 1 [] true)) := by
  refine CL60 (by simp) ?_
  have hel : ∀ i, (el l i).length ≤ 1000 := by
    intro i
    by_cases h : i < l.length
    · exact hw _ (el_mem_of l i h)
    · unfold el; rw [List.getD_eq_getElem?_getD, List.getElem?_eq_none (by omega)]; simp [default]
  generalize hR : compW l = R
  simp [A60]
  refine CondK.intro (fun h1 => ?_) (fun h1 => ?_)
  · simp at h1
    have : R = l := by
      rw [← hR]
      match l, h1 with
      | [], _ => rfl
      | [x], _ => rfl
      | _ :: _ :: _, h1 => simp at h1; omega
    subst this
    simp
  · simp at h1
    try simp 
    have h0 : l.take 1 ++ compF (el l 0) (l.drop 1) = R := by
      rw [← hR]
      match l, h1 with
      | x :: m, _ => simp [compW, el]
    refine LoopK.by (fun k : Nat => ⟨[(5, iv ((k : Int) + 1)), (0, .sl lid 0 0 l.length), (1, .fn 49 [] [])], [(lid, some ⟨1, l.map ints, 0, false⟩)]⟩) (fun i => l.length - i) (fun k => k + 1 ≤ l.length ∧ l.take (k + 1) ++ compF (el l k) (l.drop (k + 1)) = R) 0 ⟨by omega, h0⟩ (by simp) ?_
    intro k Q' ⟨hk, hc⟩ hq he hr
    try simp 
    refine CondK.intro (fun h2 => ?_) (fun h2 => ?_)
    · simp at h2
      have h2' : k + 1 < l.length := by omega
      have h2'' : k < l.length := by omega
      have he1 := equal_c (el l (k + 1)) (el l k) (big_of (hel _))
      rw [drop_cons l (k + 1) h2', compF] at hc
      repeat (refine PreK.intro (by first | omega | (intros; first | omega | (refine ⟨by omega, ?_⟩; simp_all; done) | (simp_all; done) | (simp_all; omega))) fun _ => ?_; (try simp [h2', h2'']))
      refine CallK.intro (by simpa using he1) (by simp) (by simp) ?_
      try simp 
      refine CondK.intro (fun h3 => ?_) (fun h3 => ?_)
      · simp at h3
        rw [if_pos h3, ← h3] at hc
        try simp 
        repeat' (first
          | ((with_reducible refine PreK.intro ?_ ?_); (next => (first | omega | (intros; first | omega | (refine ⟨by omega, ?_⟩; repeat (first | assumption | constructor)) | assumption))); intro _; try simp )
          | fail)
        refine LoopK.by (ι := Nat × Nat × List (List Int)) (fun x => ⟨[(7, iv ((x.1 : Int) + 1)), (5, iv x.2.1), (6, .sl lid 0 (k + 1) (l.length - (k + 1))), (0, .sl lid 0 0 l.length), (1, .fn 49 [] [])], [(lid, some ⟨1, x.2.2.map ints, 0, false⟩)]⟩) (fun x => l.length - x.1)
          (fun x => k + 1 + x.1 + 1 ≤ l.length ∧ x.2.1 ≤ k + 1 + x.1 ∧ x.2.2.length = l.length ∧ (∀ q, k + 1 + x.1 ≤ q → el x.2.2 q = el l q) ∧ x.2.2.take x.2.1 ++ compF (el l (k + 1 + x.1)) (l.drop (k + 1 + x.1 + 1)) = R) (0, k + 1, l) ⟨by dsimp only; omega, by simp, rfl, fun _ _ => rfl, hc⟩ (by simp) ?_
        intro ⟨j, i, c⟩ Q'' ⟨hj, hij, hcl, hce, hin⟩ hq' he' hr'
        dsimp only at hj hij hcl hce hin
        try simp 
        refine CondK.intro (fun h4 => ?_) (fun h4 => ?_)
        · simp at h4
          have h5 : k + 1 + j + 1 < l.length := by omega
          have e1 := hce (k + 1 + j) (by omega)
          have e2 := hce (k + 1 + (j + 1)) (by omega)
          have e3 : k + 1 + (j + 1) = k + 1 + j + 1 := rfl
          have g1 : k + 1 + j < c.length := by omega
          have g2 : k + 1 + (j + 1) < c.length := by omega
          have he2 := equal_c (el l (k + 1 + (j + 1))) (el l (k + 1 + j)) (big_of (hel _))
          rw [drop_cons l _ h5, compF] at hin
          repeat (refine PreK.intro (by first | omega | (intros; first | omega | (refine ⟨by omega, ?_⟩; simp_all; done) | (simp_all; done) | (simp_all; omega))) fun _ => ?_; (try simp [g1, g2, e1, e2]))
          refine CallK.intro (by simpa using he2) (by simp) (by simp) ?_
          try simp 
          repeat (refine PreK.intro (by first | omega | (intros; first | omega | (refine ⟨by omega, ?_⟩; simp_all; done) | (simp_all; done) | (simp_all; omega))) fun _ => ?_; (try simp ))
          refine CondK.intro (fun h6 => ?_) (fun h6 => ?_)
          · simp at h6
            rw [if_neg (by rw [← e3]; exact h6)] at hin
            have g3 : i < c.length := by omega
            repeat (refine PreK.intro (by first | omega | (intros; first | omega | (refine ⟨by omega, ?_⟩; simp_all; done) | (simp_all; done) | (simp_all; omega))) fun _ => ?_; (try simp [g1, g2, e1, e2, g3]))
            refine hq' (j + 1, i + 1, c.set i (el l (k + 1 + (j + 1)))) _ ⟨by dsimp only; omega, by dsimp only; omega, by simpa using hcl, fun q hq2 => ?_, ?_⟩ (by dsimp only; omega) ?_
            · dsimp only at hq2 ⊢
              unfold el
              rw [List.getD_eq_getElem?_getD, List.getElem?_set, if_neg (by omega), ← List.getD_eq_getElem?_getD]
              exact hce q (by omega)
            · dsimp only
              rw [take_setG _ _ _ g3, List.append_assoc]
              exact hin
            · simp [List.map_set]
          · simp at h6
            rw [if_pos (by rw [← e3]; exact h6)] at hin
            repeat (refine PreK.intro (by first | omega | (intros; first | omega | (refine ⟨by omega, ?_⟩; simp_all; done) | (simp_all; done) | (simp_all; omega))) fun _ => ?_; (try simp ))
            refine hq' (j + 1, i, c) _ ⟨by dsimp only; omega, by dsimp only; omega, hcl, fun q hq2 => hce q (by dsimp only at hq2; omega), ?_⟩ (by dsimp only; omega) (by simp)
            dsimp only
            rw [h6]
            exact hin
        · simp at h4
          rw [List.drop_eq_nil_of_le (by omega)] at hin
          simp only [compF, List.append_nil] at hin
          have hRl : R.length = i := by rw [← hin]; simp; omega
          try simp 
          apply he'
          have e5 : (c.map ints).take i = R.map ints := by rw [← hin, List.map_take]
          have e6 : (c.map ints).drop (i + (l.length - i)) = [] := List.drop_eq_nil_of_le (by simp; omega)
          try simp 
          repeat' (first
            | ((with_reducible refine PreK.intro ?_ ?_); (next => (first | omega | (intros; first | omega | (refine ⟨by omega, ?_⟩; repeat (first | assumption | constructor)) | assumption))); intro _; try simp )
            | fail)
          apply hr
          simp only [e5, e6, hRl]
          try simp 
      · simp at h3
        rw [if_neg h3] at hc
        repeat (refine PreK.intro (by first | omega | (intros; first | omega | (refine ⟨by omega, ?_⟩; simp_all; done) | (simp_all; done) | (simp_all; omega))) fun _ => ?_; (try simp ))
        refine hq (k + 1) _ ⟨by omega, ?_⟩ (by omega) (by simp)
        rw [take_succ l (k + 1) h2']
        simpa using hc
    · simp at h2
      rw [List.drop_eq_nil_of_le (by omega)] at hc
      simp only [compF, List.append_nil] at hc
      rw [List.take_of_length_le (by omega)] at hc
      subst hc
      try simp 
      apply he
      try simp 
      repeat' (first
        | ((with_reducible refine PreK.intro ?_ ?_); (next => (first | omega | (intros; first | omega | (refine ⟨by omega, ?_⟩; repeat (first | assumption | constructor)) | assumption))); intro _; try simp )
        | fail)
end Go.Proofs.YtkhddecnllcaiaaGreat
end

section
/- Contracts: the sorted list of words. -/
namespace Go.Proofs.YtkhddecnllcaiaaGreat
open Go.Abs Go
set_option maxRecDepth 20000
set_option maxHeartbeats 2000000
attribute [local irreducible] PreK CondK CallK CallG CallX LoopK
attribute [local simp] avsEq avEq akind teq vkind vEq

theorem sortW_len (l : List (List Int)) : (sortW l).length = l.length := (sortW_perm l).length_eq
theorem sorted_L (l : List (List Int)) (hl : l.length ≤ 1000) (hw : ∀ w ∈ l, w.length ≤ 1000) :
    CallL Tryz.prog 40 [] 1 (l.map ints) [] (.part (compW (sortW l)).length) ((compW (sortW l)).map ints ++ List.replicate (l.length - (compW (sortW l)).length) (.seq 1 [] true)) := by
  refine CL40 (by simp) ?_
  have h1 : CallL Tryz.prog 58 [] 1 (l.map ints) [.fn 59 [] []] (.val (.tup [])) ((sortW l).map ints) := callL_sort lsort Compare_c l
  have h2 := compact_L (sortW l) (by rw [sortW_len]; exact hl) (fun w h => hw w ((sortW_perm l).mem_iff.1 h))
  have hsl := sortW_len l
  have hnum : (compW (sortW l)).length ≤ l.length := by
    rw [← hsl]
    cases sortW l with
    | nil => simp [compW]
    | cons x m => simp only [compW, List.length_cons]; have := compF_num x m; omega
  generalize sortW l = s at h1 h2 hsl hnum
  generalize compW s = c at h2 hnum
  simp [A40]
  refine CallX.lend [] (id := lid) (ver := 0) (n := l.length) (b := ⟨1, l.map ints, 0, false⟩) [.fn 59 [] []] (.val (.tup [])) _ (by simp) (by simp) (by simp) (by simp) (by simp) (by simp) (by simp) (by simpa using h1) ?_
  try simp 
  refine CallX.lend [] (id := lid) (ver := 0) (n := l.length) (b := ⟨1, s.map ints, 0, false⟩) [.fn 49 [] []] (.part c.length) _ (by simp) (by simp) (by simp) (by simp) (by simp [hsl]) (by simp) (by simp) (by simpa using h2) ?_
  simp [hsl]
end Go.Proofs.YtkhddecnllcaiaaGreat
end

section
/- Contracts: feed's Reach, Ends, Next. -/
namespace Go.Proofs.YtkhddecnllcaiaaGreat
open Go.Abs Go
set_option maxRecDepth 20000
set_option maxHeartbeats 2000000
attribute [local irreducible] PreK CondK CallK CallG CallX LoopK
attribute [local simp] avsEq avEq akind teq vkind vEq

theorem weak_intsV (l : List Int) : weak (ints l) = ints l := by simp [weak, Abs.weakL_map (f := iv) (fun _ => rfl)]
theorem weak_ruleV (r : Rule) : weak (ruleV r) = ruleV r := by simp [weak, weakL, Abs.weakL_map (f := iv) (fun _ => rfl)]
theorem weak_stepV (x : Step) : weak (stepV x) = stepV x := by simp [weak, weakL]
theorem weak_graph (k : Bool) (s : List Rule) (g : Gr) : weak (gV k s g) = graphV s g := by
  unfold gV graphV
  simp only [rulesV, wordsV, ints, stepsV, weak, weakL, Abs.weakL_map weak_ruleV, Abs.weakL_map weak_intsV, Abs.weakL_map weak_stepV, Abs.weakL_map (f := iv) (fun _ => rfl)]
theorem reach_c (s : List Rule) (w : List Int) (h : Sys.small s) (hs : sysErr s = 0) (hw : wordErr w = 0) : CallP Tryz.prog 75 [rulesV s, ints w] (reachV s (reachG s w)) := by
  have hx := (reach_x s w h hs hw).weakR
  have e : ∀ R, weakR (reachX s R) = reachV s R := by
    intro R
    cases R with
    | none => rfl
    | some g => simp only [reachX, reachV, weakR, weakRL, weak_graph]; rfl
  rwa [e] at hx
def reachedV (s : List Rule) (w : Word) : AV := if swErr s w ≠ 0 then .tup [.raw (.pointer none), iv (swErr s w)] else reachV s (reachG s w)
theorem reached_c (s : List Rule) (w : List Int) (h : Sys.small s) (hw : w.length ≤ 1000) : CallP Tryz.prog 35 [rulesV s, ints w] (reachedV s w) := by
  refine C35 (by simp) ?_
  have hck := check_c s [w] h (by simp) (by simpa using hw)
  rw [check_one] at hck
  simp [A35]
  refine CallX.pure (CallP.weak (by simpa [weakL, weak] using hck)) (by simp) (by simp) ?_
  try simp 
  refine CondK.intro (fun h1 => ?_) (fun h1 => ?_)
  · simp at h1
    simp [reachedV, h1]
  · simp at h1
    have hrc := reach_c s w h (swErr_zero h1).1 (swErr_zero h1).2
    have e : reachedV s w = reachV s (reachG s w) := by simp [reachedV, h1]
    rw [e]
    cases hg : reachG s w with
    | none =>
      rw [hg] at hrc
      simp only [reachV] at hrc ⊢
      try simp 
      repeat' (first
        | (refine CallX.pure (hrc) (by simp) (by simp) ?_; try simp )
        | (refine CallK.intro (hrc) (by simp) (by simp) ?_; try simp )
        | (refine CallG.intro (fun _ => hrc) (by simp) (by simp) ?_; try simp )
        | ((with_reducible refine PreK.intro ?_ ?_); (next => (first | omega | (intros; first | omega | (refine ⟨by omega, ?_⟩; repeat (first | assumption | constructor)) | assumption))); intro _; try simp )
        | fail)
    | some g =>
      rw [hg] at hrc
      simp only [reachV] at hrc ⊢
      try simp 
      repeat' (first
        | (refine CallX.pure (hrc) (by simp) (by simp) ?_; try simp )
        | (refine CallK.intro (hrc) (by simp) (by simp) ?_; try simp )
        | (refine CallG.intro (fun _ => hrc) (by simp) (by simp) ?_; try simp )
        | ((with_reducible refine PreK.intro ?_ ?_); (next => (first | omega | (intros; first | omega | (refine ⟨by omega, ?_⟩; repeat (first | assumption | constructor)) | assumption))); intro _; try simp )
        | fail)
/-- The words, each once, in order. -/
def uniq (l : List Word) : List Word := compW (sortW l)
theorem uniq_len (l : List Word) : (uniq l).length ≤ l.length := by
  unfold uniq
  have := (sortW_perm l).length_eq
  rw [← this]
  cases sortW l with
  | nil => simp [compW]
  | cons x m => simp only [compW, List.length_cons]; have := compF_num x m; omega
def ReachE (s : List Rule) (w : Word) : List Word × Int := if swErr s w ≠ 0 then ([], swErr s w) else match reachG s w with
  | none => ([], 3)
  | some g => (uniq g.ws, 0)
theorem addG_ok {s : List Rule} {i : Nat} : ∀ {l : List Move} {g g' : Gr}, (∀ m ∈ l, wordErr m.word = 0) → g.ok → addG i g l = some g' → g'.ok
  | [], g, g', _, h, e => by
    simp only [addG, Option.some.injEq] at e
    subst e; exact h
  | m :: l, g, g', hl, h, e => by
    rw [addG] at e
    split at e
    · exact addG_ok (s := s) (fun x hx => hl x (by simp [hx])) h e
    · split at e
      · cases e
      · rename_i h3
        exact addG_ok (s := s) (fun x hx => hl x (by simp [hx])) (h.push (hl m (by simp)) h3) e
theorem closeG_ok {s : List Rule} (hs : sysErr s = 0) : ∀ {n i : Nat} {g g' : Gr}, g.ok → closeG s n i g = some g' → g'.ok
  | 0, i, g, g', h, e => by
    simp only [closeG, Option.some.injEq] at e
    subst e; exact h
  | n + 1, i, g, g', h, e => by
    rw [closeG] at e
    split at e
    · rename_i hi
      cases ha : addG i g (movesM s (el g.ws i)) with
      | none => rw [ha] at e; cases e
      | some g2 =>
        rw [ha] at e
        exact closeG_ok hs (addG_ok (s := s) (fun m hm => moves_right hs (h.fine _ (el_mem_of g.ws i hi)) hm) h ha) e
    · simp only [Option.some.injEq] at e
      subst e; exact h
theorem reachG_ok {s : List Rule} {w : Word} {g : Gr} (h : swErr s w = 0) (e : reachG s w = some g) : g.ok := closeG_ok (swErr_zero h).1 (Gr.start (swErr_zero h).2) e
theorem Reach_c (s : List Rule) (w : List Int) (h : Sys.small s) (hw : w.length ≤ 1000) : CallP Tryz.prog 13 [rulesV s, ints w] (.tup [wordsV (ReachE s w).1, iv (ReachE s w).2]) := by
  refine C13 (by simp) ?_
  have hrc := reached_c s w h hw
  by_cases h1 : swErr s w = 0
  · have e1 : reachedV s w = reachV s (reachG s w) := by simp [reachedV, h1]
    rw [e1] at hrc
    cases hg : reachG s w with
    | none =>
      rw [hg] at hrc
      have e2 : ReachE s w = ([], 3) := by simp [ReachE, h1, hg]
      rw [e2]
      simp only [reachV] at hrc
      simp [A13]
      try simp 
      repeat' (first
        | (refine CallX.pure (hrc) (by simp) (by simp) ?_; try simp )
        | (refine CallK.intro (hrc) (by simp) (by simp) ?_; try simp )
        | (refine CallG.intro (fun _ => hrc) (by simp) (by simp) ?_; try simp )
        | ((with_reducible refine PreK.intro ?_ ?_); (next => (first | omega | (intros; first | omega | (refine ⟨by omega, ?_⟩; repeat (first | assumption | constructor)) | assumption))); intro _; try simp )
        | fail)
      refine CondK.intro (fun h2 => ?_) (fun h2 => ?_)
      · try simp 
        repeat' (first
          | ((with_reducible refine PreK.intro ?_ ?_); (next => (first | omega | (intros; first | omega | (refine ⟨by omega, ?_⟩; repeat (first | assumption | constructor)) | assumption))); intro _; try simp )
          | fail)
      · simp at h2
    | some g =>
      rw [hg] at hrc
      have hok := reachG_ok h1 hg
      have hnum := hok.num
      have e2 : ReachE s w = (uniq g.ws, 0) := by simp [ReachE, h1, hg]
      rw [e2]
      simp only [reachV, graphV] at hrc
      simp [A13]
      try simp 
      repeat' (first
        | (refine CallX.pure (hrc) (by simp) (by simp) ?_; try simp )
        | (refine CallK.intro (hrc) (by simp) (by simp) ?_; try simp )
        | (refine CallG.intro (fun _ => hrc) (by simp) (by simp) ?_; try simp )
        | ((with_reducible refine PreK.intro ?_ ?_); (next => (first | omega | (intros; first | omega | (refine ⟨by omega, ?_⟩; repeat (first | assumption | constructor)) | assumption))); intro _; try simp )
        | fail)
      refine CondK.intro (fun h2 => ?_) (fun h2 => ?_)
      · simp at h2
      · try simp 
        repeat' (first
          | ((with_reducible refine PreK.intro ?_ ?_); (next => (first | omega | (intros; first | omega | (refine ⟨by omega, ?_⟩; repeat (first | assumption | constructor)) | assumption))); intro _; try simp )
          | fail)
        refine LoopK.by (ι := Nat × Nat) (fun x => ⟨[(25, iv x.1), (24, iv g.ws.length), (23, wordsV g.ws), (8, .sl 8 x.2 0 x.1)], [(8, some ⟨1, (g.ws.take x.1).map ints, x.2, false⟩)]⟩) (fun x => g.ws.length - x.1) (fun x => x.1 ≤ g.ws.length) (0, 1) (by simp) (by simp) ?_
        intro ⟨i, v⟩ Q' hi hq he hr
        dsimp only at hi
        try simp 
        refine CondK.intro (fun h3 => ?_) (fun h3 => ?_)
        · simp at h3
          have hwl := (wordErr_zero (hok.fine _ (el_mem_of g.ws i h3))).1
          try simp [h3]
          repeat' (first
            | (refine CallX.pure ((clone_o (el g.ws i) (by omega)).toP) (by simp) (by simp) ?_; try simp [h3])
            | (refine CallK.intro ((clone_o (el g.ws i) (by omega)).toP) (by simp) (by simp) ?_; try simp [h3])
            | (refine CallG.intro (fun _ => (clone_o (el g.ws i) (by omega)).toP) (by simp) (by simp) ?_; try simp [h3])
            | ((with_reducible refine PreK.intro ?_ ?_); (next => (first | omega | (intros; first | omega | (refine ⟨by omega, ?_⟩; repeat (first | assumption | constructor)) | assumption))); intro _; try simp [h3])
            | fail)
          refine hq (i + 1, v + 1) _ (by dsimp only; omega) (by dsimp only; omega) ?_
          have e5 : List.take (i + 1) (g.ws.map ints) = List.take i (g.ws.map ints) ++ [ints (el g.ws i)] := by rw [← List.map_take, ← List.map_take, take_succ g.ws i h3]; simp
          simp only [ints] at e5
          simp [List.take_take, e5]
        · simp at h3
          have hil : i = g.ws.length := by omega
          subst hil
          try simp 
          apply he
          have hsl := sorted_L g.ws (by omega) (fun x hx => by
            have := (wordErr_zero (hok.fine x hx)).1
            omega)
          have hsl2 : CallL Tryz.prog 40 [] 1 (g.ws.map ints) [] (.part (uniq g.ws).length) ((uniq g.ws).map ints ++ List.replicate (g.ws.length - (uniq g.ws).length) (.seq 1 [] true)) := hsl
          generalize uniq g.ws = U at hsl2
          try simp 
          refine CallX.lend [] (id := 8) (ver := v) (n := g.ws.length) (b := ⟨1, g.ws.map ints, v, false⟩) [] (.part U.length) _ (by simp) (by simp) (by simp) (by simp) (by simp) (by simp) (by simp) (by simpa using hsl2) ?_
          try simp 
  · have e1 : reachedV s w = .tup [.raw (.pointer none), iv (swErr s w)] := by simp [reachedV, h1]
    rw [e1] at hrc
    have e2 : ReachE s w = ([], swErr s w) := by simp [ReachE, h1]
    rw [e2]
    simp [A13]
    try simp 
    repeat' (first
      | (refine CallX.pure (hrc) (by simp) (by simp) ?_; try simp )
      | (refine CallK.intro (hrc) (by simp) (by simp) ?_; try simp )
      | (refine CallG.intro (fun _ => hrc) (by simp) (by simp) ?_; try simp )
      | ((with_reducible refine PreK.intro ?_ ?_); (next => (first | omega | (intros; first | omega | (refine ⟨by omega, ?_⟩; repeat (first | assumption | constructor)) | assumption))); intro _; try simp )
      | fail)
    refine CondK.intro (fun h2 => ?_) (fun h2 => ?_)
    · try simp 
      repeat' (first
        | ((with_reducible refine PreK.intro ?_ ?_); (next => (first | omega | (intros; first | omega | (refine ⟨by omega, ?_⟩; repeat (first | assumption | constructor)) | assumption))); intro _; try simp )
        | fail)
    · simp at h2
      exact absurd h2 h1
end Go.Proofs.YtkhddecnllcaiaaGreat
end

section
/- Functions of the cut as the value layer reads them. (written by gen.py) -/
set_option maxRecDepth 20000
namespace Go.Proofs.YtkhddecnllcaiaaGreat
open Go.Abs Go

def A106 : ACode :=
  (.seq (.reg [] [⟨some 4, (.assign (.const (.int .u64 0))), 114, none⟩,
      ⟨some 5, (.assign (.const (.int .u64 0))), 114, none⟩])
    (.seq (.cond (.const (.bool false))
    (.seq (.reg [] [⟨some 11, (.move (.tmp 0)), 114, none⟩,
      ⟨some 12, (.convert 114 145 (.tmp 11)), 145, none⟩,
      ⟨some 13, (.move (.tmp 1)), 114, none⟩,
      ⟨some 14, (.convert 114 145 (.tmp 13)), 145, none⟩,
      ⟨some 15, (.call ⟨(.value (.func 151)), #[(.tmp 12), (.tmp 14)], #[145, 145]⟩), 164, none⟩,
      ⟨some 10, (.move (.tmp 15)), 164, none⟩,
      ⟨some 16, (.extract (.tmp 10) 0), 145, none⟩,
      ⟨some 17, (.extract (.tmp 10) 1), 145, none⟩,
      ⟨some 6, (.assign (.tmp 16)), 145, none⟩,
      ⟨some 7, (.assign (.tmp 17)), 145, none⟩])
    (.seq (.reg [] [⟨some 18, (.move (.tmp 6)), 145, none⟩,
      ⟨some 19, (.convert 145 114 (.tmp 18)), 114, none⟩,
      ⟨some 20, (.move (.tmp 7)), 145, none⟩,
      ⟨some 21, (.convert 145 114 (.tmp 20)), 114, none⟩,
      ⟨some 4, (.assign (.tmp 19)), 114, none⟩,
      ⟨some 5, (.assign (.tmp 21)), 114, none⟩])
    .ret))
    .skip)
    (.seq (.reg [] [⟨some 23, (.move (.tmp 0)), 114, none⟩,
      ⟨some 24, (.move (.tmp 1)), 114, none⟩,
      ⟨some 25, (.call ⟨(.value (.func 152)), #[(.tmp 23), (.tmp 24)], #[147, 147]⟩), 166, none⟩,
      ⟨some 22, (.move (.tmp 25)), 166, none⟩,
      ⟨some 26, (.extract (.tmp 22) 0), 147, none⟩,
      ⟨some 27, (.extract (.tmp 22) 1), 147, none⟩,
      ⟨some 8, (.assign (.tmp 26)), 147, none⟩,
      ⟨some 9, (.assign (.tmp 27)), 147, none⟩])
    (.seq (.reg [] [⟨some 28, (.move (.tmp 8)), 147, none⟩,
      ⟨some 29, (.move (.tmp 9)), 147, none⟩,
      ⟨some 4, (.assign (.tmp 28)), 114, none⟩,
      ⟨some 5, (.assign (.tmp 29)), 114, none⟩])
    .ret))))
theorem C106 {args : List AV} {r : AV} (hn : args.length ≤ 30) (h : vc Tryz.prog T [] A106 (Fin T [(.tmp 4), (.tmp 5)] r) ⟨envOf 0 args, []⟩) : CallP Tryz.prog 106 args r :=
  callP_of tok mixed Tryz.func106 (by kernel_rfl) (by kernel_rfl) (by kernel_rfl : Tryz.f106.ntmps = 30) (by kernel_rfl : Tryz.f106.body.bind (strip 30 (fun _ => [])) = some A106) hn h
def A152 : ACode :=
  (.seq (.reg [] [⟨some 4, (.assign (.const (.int .u64 0))), 147, none⟩,
      ⟨some 5, (.assign (.const (.int .u64 0))), 147, none⟩])
    (.seq (.reg [] [⟨some 14, (.move (.tmp 0)), 147, none⟩,
      ⟨some 15, (.binOp .and 147 (.tmp 14) (.const (.int .u64 4294967295)) 147), 147, none⟩,
      ⟨some 6, (.assign (.tmp 15)), 147, none⟩])
    (.seq (.reg [] [⟨some 16, (.move (.tmp 0)), 147, none⟩,
      ⟨some 17, (.binOp .shr 147 (.tmp 16) (.const (.int .u64 32)) 114), 147, none⟩,
      ⟨some 7, (.assign (.tmp 17)), 147, none⟩])
    (.seq (.reg [] [⟨some 18, (.move (.tmp 1)), 147, none⟩,
      ⟨some 19, (.binOp .and 147 (.tmp 18) (.const (.int .u64 4294967295)) 147), 147, none⟩,
      ⟨some 8, (.assign (.tmp 19)), 147, none⟩])
    (.seq (.reg [] [⟨some 20, (.move (.tmp 1)), 147, none⟩,
      ⟨some 21, (.binOp .shr 147 (.tmp 20) (.const (.int .u64 32)) 114), 147, none⟩,
      ⟨some 9, (.assign (.tmp 21)), 147, none⟩])
    (.seq (.reg [] [⟨some 22, (.move (.tmp 6)), 147, none⟩,
      ⟨some 23, (.move (.tmp 8)), 147, none⟩,
      ⟨some 24, (.binOp .mul 147 (.tmp 22) (.tmp 23) 147), 147, none⟩,
      ⟨some 10, (.assign (.tmp 24)), 147, none⟩])
    (.seq (.reg [] [⟨some 25, (.move (.tmp 7)), 147, none⟩,
      ⟨some 26, (.move (.tmp 8)), 147, none⟩,
      ⟨some 27, (.binOp .mul 147 (.tmp 25) (.tmp 26) 147), 147, none⟩,
      ⟨some 28, (.move (.tmp 10)), 147, none⟩,
      ⟨some 29, (.binOp .shr 147 (.tmp 28) (.const (.int .u64 32)) 114), 147, none⟩,
      ⟨some 30, (.binOp .add 147 (.tmp 27) (.tmp 29) 147), 147, none⟩,
      ⟨some 11, (.assign (.tmp 30)), 147, none⟩])
    (.seq (.reg [] [⟨some 31, (.move (.tmp 11)), 147, none⟩,
      ⟨some 32, (.binOp .and 147 (.tmp 31) (.const (.int .u64 4294967295)) 147), 147, none⟩,
      ⟨some 12, (.assign (.tmp 32)), 147, none⟩])
    (.seq (.reg [] [⟨some 33, (.move (.tmp 11)), 147, none⟩,
      ⟨some 34, (.binOp .shr 147 (.tmp 33) (.const (.int .u64 32)) 114), 147, none⟩,
      ⟨some 13, (.assign (.tmp 34)), 147, none⟩])
    (.seq (.reg [] [⟨some 35, (.move (.tmp 12)), 147, none⟩,
      ⟨some 36, (.move (.tmp 6)), 147, none⟩,
      ⟨some 37, (.move (.tmp 9)), 147, none⟩,
      ⟨some 38, (.binOp .mul 147 (.tmp 36) (.tmp 37) 147), 147, none⟩,
      ⟨some 39, (.binOp .add 147 (.tmp 35) (.tmp 38) 147), 147, none⟩,
      ⟨some 12, (.assign (.tmp 39)), 147, none⟩])
    (.seq (.reg [] [⟨some 40, (.move (.tmp 7)), 147, none⟩,
      ⟨some 41, (.move (.tmp 9)), 147, none⟩,
      ⟨some 42, (.binOp .mul 147 (.tmp 40) (.tmp 41) 147), 147, none⟩,
      ⟨some 43, (.move (.tmp 13)), 147, none⟩,
      ⟨some 44, (.binOp .add 147 (.tmp 42) (.tmp 43) 147), 147, none⟩,
      ⟨some 45, (.move (.tmp 12)), 147, none⟩,
      ⟨some 46, (.binOp .shr 147 (.tmp 45) (.const (.int .u64 32)) 114), 147, none⟩,
      ⟨some 47, (.binOp .add 147 (.tmp 44) (.tmp 46) 147), 147, none⟩,
      ⟨some 4, (.assign (.tmp 47)), 147, none⟩])
    (.seq (.reg [] [⟨some 48, (.move (.tmp 0)), 147, none⟩,
      ⟨some 49, (.move (.tmp 1)), 147, none⟩,
      ⟨some 50, (.binOp .mul 147 (.tmp 48) (.tmp 49) 147), 147, none⟩,
      ⟨some 5, (.assign (.tmp 50)), 147, none⟩])
    .ret))))))))))))
theorem C152 {args : List AV} {r : AV} (hn : args.length ≤ 51) (h : vc Tryz.prog T [] A152 (Fin T [(.tmp 4), (.tmp 5)] r) ⟨envOf 0 args, []⟩) : CallP Tryz.prog 152 args r :=
  callP_of tok mixed Tryz.func152 (by kernel_rfl) (by kernel_rfl) (by kernel_rfl : Tryz.f152.ntmps = 51) (by kernel_rfl : Tryz.f152.body.bind (strip 51 (fun _ => [])) = some A152) hn h
def A41 : ACode :=
  (.seq (.reg [] [⟨some 1, (.box 48 (.tmp 0)), 0, none⟩,
      ⟨some 2, (.assign (.const (.int .i64 0))), 3, none⟩,
      ⟨some 3, (.assign (.const (.bool false))), 4, none⟩])
    (.seq (.reg [] [⟨some 8, (.buildSlice 23 1 #[(0, (.const (.int .i64 (-2))))]), 23, none⟩,
      ⟨some 9, (.load 48 (.tmp 1)), 48, none⟩,
      ⟨some 10, (.nilCheck (.tmp 9)), 0, none⟩,
      ⟨some 11, (.fieldAddr 60 (.tmp 10) 1), 0, none⟩,
      ⟨some 12, (.load 27 (.tmp 11)), 27, none⟩,
      ⟨some 13, (.call ⟨(.builtin .len), #[(.tmp 12)], #[27]⟩), 3, none⟩,
      ⟨some 14, (.call ⟨(.value (.func 80)), #[(.tmp 8), (.tmp 13)], #[23, 3]⟩), 23, none⟩,
      ⟨some 4, (.alloc 23), 0, none⟩,
      ⟨none, (.store 23 (.tmp 4) (.tmp 14)), 0, none⟩])
    (.seq (.reg [] [⟨some 5, (.alloc 4), 0, none⟩,
      ⟨none, (.store 4 (.tmp 5) (.const (.bool false))), 0, none⟩])
    (.seq (.reg [] [⟨some 6, (.alloc 101), 0, none⟩])
    (.seq (.reg [] [⟨some 15, (.makeFunc (.func 81) #[] #[(.tmp 4), (.tmp 5), (.tmp 1), (.tmp 6)]), 101, none⟩,
      ⟨none, (.store 101 (.tmp 6) (.tmp 15)), 0, none⟩])
    (.seq (.reg [] [⟨some 16, (.load 101 (.tmp 6)), 101, none⟩,
      ⟨some 17, (.call ⟨(.value (.tmp 16)), #[(.const (.int .i64 0))], #[3]⟩), 3, none⟩,
      ⟨some 7, (.assign (.tmp 17)), 3, none⟩])
    (.seq (.seq (.reg [] [⟨some 18, (.load 4 (.tmp 5)), 4, none⟩])
    (.cond (.tmp 18)
    (.seq (.reg [] [⟨some 2, (.assign (.const (.int .i64 0))), 3, none⟩,
      ⟨some 3, (.assign (.const (.bool false))), 4, none⟩])
    .ret)
    .skip))
    (.seq (.reg [] [⟨some 19, (.move (.tmp 7)), 3, none⟩,
      ⟨some 2, (.assign (.tmp 19)), 3, none⟩,
      ⟨some 3, (.assign (.const (.bool true))), 4, none⟩])
    .ret))))))))
theorem C41 {args : List AV} {r : AV} (hn : args.length ≤ 20) (h : vc Tryz.prog T [] A41 (Fin T [(.tmp 2), (.tmp 3)] r) ⟨envOf 0 args, []⟩) : CallP Tryz.prog 41 args r :=
  callP_of tok mixed Tryz.func41 (by kernel_rfl) (by kernel_rfl) (by kernel_rfl : Tryz.f41.ntmps = 20) (by kernel_rfl : Tryz.f41.body.bind (strip 20 (fun _ => [])) = some A41) hn h

end Go.Proofs.YtkhddecnllcaiaaGreat
end

section
/- Functions of the cut as the value layer reads them. (written by gen.py) -/
set_option maxRecDepth 20000
namespace Go.Proofs.YtkhddecnllcaiaaGreat
open Go.Abs Go

def A33 : ACode :=
  (.seq (.reg [] [⟨some 1, (.box 46 (.tmp 0)), 0, none⟩,
      ⟨some 2, (.assign (.const (.bool false))), 4, none⟩])
    (.seq (.reg [] [⟨some 3, (.fieldAddr 46 (.tmp 1) 1), 0, none⟩,
      ⟨some 4, (.load 23 (.tmp 3)), 23, none⟩,
      ⟨some 5, (.call ⟨(.value (.func 71)), #[(.tmp 4)], #[23]⟩), 4, none⟩,
      ⟨some 6, (.move (.tmp 5)), 4, none⟩,
      ⟨some 7, (.fieldAddr 46 (.tmp 1) 2), 0, some (6, false)⟩,
      ⟨some 8, (.load 23 (.tmp 7)), 23, some (6, false)⟩,
      ⟨some 9, (.call ⟨(.value (.func 71)), #[(.tmp 8)], #[23]⟩), 4, some (6, false)⟩,
      ⟨some 10, (.pick (.tmp 6) (.const (.bool true)) (.tmp 9)), 4, none⟩,
      ⟨some 11, (.move (.tmp 10)), 4, none⟩,
      ⟨some 12, (.fieldAddr 46 (.tmp 1) 3), 0, some (11, false)⟩,
      ⟨some 13, (.load 23 (.tmp 12)), 23, some (11, false)⟩,
      ⟨some 14, (.call ⟨(.value (.func 71)), #[(.tmp 13)], #[23]⟩), 4, some (11, false)⟩,
      ⟨some 15, (.pick (.tmp 11) (.const (.bool true)) (.tmp 14)), 4, none⟩,
      ⟨some 2, (.assign (.tmp 15)), 4, none⟩])
    .ret))
theorem C33 {args : List AV} {r : AV} (hn : args.length ≤ 16) (h : vc Tryz.prog T [] A33 (Fin T [(.tmp 2)] r) ⟨envOf 0 args, []⟩) : CallP Tryz.prog 33 args r :=
  callP_of tok mixed Tryz.func33 (by kernel_rfl) (by kernel_rfl) (by kernel_rfl : Tryz.f33.ntmps = 16) (by kernel_rfl : Tryz.f33.body.bind (strip 16 (fun _ => [])) = some A33) hn h
def A71 : ACode :=
  (.seq (.reg [] [⟨some 2, (.assign (.const (.bool false))), 4, none⟩])
    (.seq (.reg [] [⟨some 3, (.move (.tmp 0)), 23, none⟩,
      ⟨some 4, (.call ⟨(.builtin .len), #[(.tmp 3)], #[23]⟩), 3, none⟩,
      ⟨some 5, (.binOp .gtr 3 (.tmp 4) (.const (.int .i64 100)) 3), 4, none⟩,
      ⟨some 2, (.assign (.tmp 5)), 4, none⟩])
    .ret))
theorem C71 {args : List AV} {r : AV} (hn : args.length ≤ 6) (h : vc Tryz.prog T [] A71 (Fin T [(.tmp 2)] r) ⟨envOf 0 args, []⟩) : CallP Tryz.prog 71 args r :=
  callP_of tok mixed Tryz.func71 (by kernel_rfl) (by kernel_rfl) (by kernel_rfl : Tryz.f71.ntmps = 6) (by kernel_rfl : Tryz.f71.body.bind (strip 6 (fun _ => [])) = some A71) hn h
def A80 : ACode :=
  (.seq (.reg [] [⟨some 4, (.assign (.const (.slice none 0 0))), 23, none⟩])
    (.seq (.seq (.reg [] [⟨some 9, (.move (.tmp 1)), 3, none⟩,
      ⟨some 10, (.binOp .lss 3 (.tmp 9) (.const (.int .i64 0)) 3), 4, none⟩])
    (.cond (.tmp 10)
    (.reg [] [⟨some 11, (.makeInterface 9 (.const (.string ⟨#[99, 97, 110, 110, 111, 116, 32, 98, 101, 32, 110, 101, 103, 97, 116, 105, 118, 101]⟩))), 20, none⟩,
      ⟨none, (.panic (.tmp 11)), 0, none⟩])
    .skip))
    (.seq (.reg [] [⟨some 13, (.move (.tmp 0)), 23, none⟩,
      ⟨some 14, (.call ⟨(.builtin .len), #[(.tmp 13)], #[23]⟩), 3, none⟩,
      ⟨some 15, (.convert 3 114 (.tmp 14)), 114, none⟩,
      ⟨some 16, (.move (.tmp 1)), 3, none⟩,
      ⟨some 17, (.convert 3 114 (.tmp 16)), 114, none⟩,
      ⟨some 18, (.call ⟨(.value (.func 106)), #[(.tmp 15), (.tmp 17)], #[114, 114]⟩), 124, none⟩,
      ⟨some 12, (.move (.tmp 18)), 124, none⟩,
      ⟨some 19, (.extract (.tmp 12) 0), 114, none⟩,
      ⟨some 20, (.extract (.tmp 12) 1), 114, none⟩,
      ⟨some 5, (.assign (.tmp 19)), 114, none⟩,
      ⟨some 6, (.assign (.tmp 20)), 114, none⟩])
    (.seq (.seq (.reg [] [⟨some 21, (.move (.tmp 5)), 114, none⟩,
      ⟨some 22, (.binOp .gtr 114 (.tmp 21) (.const (.int .u64 0)) 114), 4, none⟩,
      ⟨some 23, (.move (.tmp 22)), 4, none⟩,
      ⟨some 24, (.move (.tmp 6)), 114, some (23, false)⟩,
      ⟨some 25, (.binOp .gtr 114 (.tmp 24) (.const (.int .u64 9223372036854775807)) 114), 4, some (23, false)⟩,
      ⟨some 26, (.pick (.tmp 23) (.const (.bool true)) (.tmp 25)), 4, none⟩])
    (.cond (.tmp 26)
    (.reg [] [⟨some 27, (.makeInterface 9 (.const (.string ⟨#[116, 104, 101, 32, 114, 101, 115, 117, 108, 116, 32, 111, 102, 32, 40, 108, 101, 110, 40, 120, 41, 32, 42, 32, 99, 111, 117, 110, 116, 41, 32, 111, 118, 101, 114, 102, 108, 111, 119, 115]⟩))), 20, none⟩,
      ⟨none, (.panic (.tmp 27)), 0, none⟩])
    .skip))
    (.seq (.reg [] [⟨some 28, (.move (.tmp 6)), 114, none⟩,
      ⟨some 29, (.convert 114 3 (.tmp 28)), 3, none⟩,
      ⟨some 30, (.makeSlice 23 (.tmp 29) (.tmp 29)), 23, none⟩,
      ⟨some 7, (.assign (.tmp 30)), 23, none⟩])
    (.seq (.reg [] [⟨some 31, (.move (.tmp 7)), 23, none⟩,
      ⟨some 32, (.move (.tmp 0)), 23, none⟩,
      ⟨some 33, (.call ⟨(.builtin .copy), #[(.tmp 31), (.tmp 32)], #[23, 23]⟩), 3, none⟩,
      ⟨some 8, (.assign (.tmp 33)), 3, none⟩])
    (.seq (.block 0 (.loop (.seq (.seq (.reg [] [⟨some 34, (.move (.tmp 8)), 3, none⟩,
      ⟨some 35, (.move (.tmp 7)), 23, none⟩,
      ⟨some 36, (.call ⟨(.builtin .len), #[(.tmp 35)], #[23]⟩), 3, none⟩,
      ⟨some 37, (.binOp .lss 3 (.tmp 34) (.tmp 36) 3), 4, none⟩])
    (.cond (.tmp 37)
    .skip
    (.exit 0)))
    (.block 1 (.draw [] [⟨some 38, (.move (.tmp 8)), 3, none⟩,
      ⟨some 39, (.move (.tmp 7)), 23, none⟩,
      ⟨some 40, (.move (.tmp 8)), 3, none⟩,
      ⟨some 41, (.slice 23 (.tmp 39) (some (.tmp 40)) none none), 23, none⟩,
      ⟨some 42, (.move (.tmp 7)), 23, none⟩,
      ⟨some 43, (.move (.tmp 8)), 3, none⟩,
      ⟨some 44, (.slice 23 (.tmp 42) none (some (.tmp 43)) none), 23, none⟩,
      ⟨some 45, (.call ⟨(.builtin .copy), #[(.tmp 41), (.tmp 44)], #[23, 23]⟩), 3, none⟩,
      ⟨some 46, (.binOp .add 3 (.tmp 38) (.tmp 45) 3), 3, none⟩,
      ⟨some 8, (.assign (.tmp 46)), 3, none⟩] [(0, 1), (0, 2), (1, 2), (0, 3), (0, 4), (1, 4), (2, 4), (3, 4), (0, 5), (1, 5), (2, 5), (3, 5), (4, 5), (0, 6), (1, 6), (2, 6), (3, 6), (0, 7)])))))
    (.seq (.reg [] [⟨some 47, (.move (.tmp 7)), 23, none⟩,
      ⟨some 4, (.assign (.tmp 47)), 23, none⟩])
    .ret))))))))
theorem CO80 {args : List AV} {sz : Nat} {els : List AV} (hn : args.length ≤ 48) (h : vc Tryz.prog T [] A80 (FinO [(.tmp 4)] sz els) ⟨envOf 0 args, []⟩) : CallO Tryz.prog 80 args sz els :=
  callO_of tok mixed Tryz.func80 (by kernel_rfl) (by kernel_rfl) (by kernel_rfl : Tryz.f80.ntmps = 48) (by kernel_rfl : Tryz.f80.body.bind (strip 48 (fun _ => [])) = some A80) hn h
def A81 : ACode :=
  (.seq (.reg [] [⟨some 6, (.assign (.const (.int .i64 0))), 3, none⟩])
    (.seq (.seq (.reg [] [⟨some 10, (.load 23 (.tmp 1)), 23, none⟩,
      ⟨some 11, (.move (.tmp 0)), 3, none⟩,
      ⟨some 12, (.indexAddr 23 (.tmp 10) (.tmp 11)), 0, none⟩,
      ⟨some 13, (.load 3 (.tmp 12)), 3, none⟩,
      ⟨some 14, (.binOp .eql 3 (.tmp 13) (.const (.int .i64 (-1))) 3), 4, none⟩])
    (.cond (.tmp 14)
    (.seq (.reg [] [⟨none, (.store 4 (.tmp 2) (.const (.bool true))), 0, none⟩])
    (.seq (.reg [] [⟨some 6, (.assign (.const (.int .i64 0))), 3, none⟩])
    .ret))
    .skip))
    (.seq (.seq (.reg [] [⟨some 15, (.load 23 (.tmp 1)), 23, none⟩,
      ⟨some 16, (.move (.tmp 0)), 3, none⟩,
      ⟨some 17, (.indexAddr 23 (.tmp 15) (.tmp 16)), 0, none⟩,
      ⟨some 18, (.load 3 (.tmp 17)), 3, none⟩,
      ⟨some 19, (.binOp .neq 3 (.tmp 18) (.const (.int .i64 (-2))) 3), 4, none⟩])
    (.cond (.tmp 19)
    (.seq (.reg [] [⟨some 20, (.load 23 (.tmp 1)), 23, none⟩,
      ⟨some 21, (.move (.tmp 0)), 3, none⟩,
      ⟨some 22, (.indexAddr 23 (.tmp 20) (.tmp 21)), 0, none⟩,
      ⟨some 23, (.load 3 (.tmp 22)), 3, none⟩,
      ⟨some 6, (.assign (.tmp 23)), 3, none⟩])
    .ret)
    .skip))
    (.seq (.reg [] [⟨some 24, (.load 23 (.tmp 1)), 23, none⟩,
      ⟨some 25, (.move (.tmp 0)), 3, none⟩,
      ⟨some 26, (.indexAddr 23 (.tmp 24) (.tmp 25)), 0, none⟩,
      ⟨none, (.store 3 (.tmp 26) (.const (.int .i64 (-1)))), 0, none⟩])
    (.seq (.reg [] [⟨some 7, (.assign (.const (.int .i64 0))), 3, none⟩])
    (.seq (.seq (.draw [] [⟨some 27, (.load 48 (.tmp 3)), 48, none⟩,
      ⟨some 28, (.nilCheck (.tmp 27)), 0, none⟩,
      ⟨some 29, (.fieldAddr 60 (.tmp 28) 0), 0, none⟩,
      ⟨some 30, (.load 22 (.tmp 29)), 22, none⟩,
      ⟨some 31, (.load 48 (.tmp 3)), 48, none⟩,
      ⟨some 32, (.nilCheck (.tmp 31)), 0, none⟩,
      ⟨some 33, (.fieldAddr 60 (.tmp 32) 1), 0, none⟩,
      ⟨some 34, (.load 27 (.tmp 33)), 27, none⟩,
      ⟨some 35, (.move (.tmp 0)), 3, none⟩,
      ⟨some 36, (.indexAddr 27 (.tmp 34) (.tmp 35)), 0, none⟩,
      ⟨some 37, (.load 23 (.tmp 36)), 23, none⟩,
      ⟨some 38, (.call ⟨(.value (.func 76)), #[(.tmp 30), (.tmp 37)], #[22, 23]⟩), 96, none⟩,
      ⟨some 39, (.call ⟨(.builtin .len), #[(.tmp 38)], #[96]⟩), 3, none⟩,
      ⟨some 40, (.move (.const (.int .i64 0))), 3, none⟩] [(0, 4), (1, 4), (2, 4), (3, 4), (0, 5), (1, 5), (2, 5), (3, 5), (0, 6), (1, 6), (2, 6), (3, 6), (0, 7), (1, 7), (2, 7), (3, 7), (0, 8), (1, 8), (2, 8), (3, 8), (4, 8), (5, 8), (6, 8), (7, 8), (0, 9), (1, 9), (2, 9), (3, 9), (0, 10), (1, 10), (2, 10), (3, 10), (0, 13), (1, 13), (2, 13), (3, 13), (4, 13), (5, 13), (6, 13), (7, 13), (8, 13), (9, 13), (10, 13), (11, 13), (12, 13)])
    (.block 0 (.loop (.seq (.reg [] [⟨some 41, (.binOp .lss 3 (.tmp 40) (.tmp 39) 3), 0, none⟩])
    (.seq (.cond (.tmp 41)
    .skip
    (.exit 0))
    (.seq (.block 1 (.seq (.reg [] [⟨some 42, (.indexAddr 96 (.tmp 38) (.tmp 40)), 0, none⟩,
      ⟨some 43, (.load 105 (.tmp 42)), 105, none⟩,
      ⟨some 9, (.alloc 105), 0, none⟩,
      ⟨none, (.store 105 (.tmp 9) (.tmp 43)), 0, none⟩])
    (.draw [] [⟨some 44, (.move (.tmp 7)), 3, none⟩,
      ⟨some 45, (.load 101 (.tmp 4)), 101, none⟩,
      ⟨some 46, (.load 48 (.tmp 3)), 48, none⟩,
      ⟨some 47, (.nilCheck (.tmp 46)), 0, none⟩,
      ⟨some 48, (.fieldAddr 60 (.tmp 47) 2), 0, none⟩,
      ⟨some 49, (.load 57 (.tmp 48)), 57, none⟩,
      ⟨some 50, (.fieldAddr 105 (.tmp 9) 1), 0, none⟩,
      ⟨some 51, (.load 23 (.tmp 50)), 23, none⟩,
      ⟨some 52, (.call ⟨(.value (.func 65)), #[(.tmp 51)], #[23]⟩), 9, none⟩,
      ⟨some 53, (.lookup 57 (.tmp 49) (.tmp 52) false), 3, none⟩,
      ⟨some 54, (.call ⟨(.value (.tmp 45)), #[(.tmp 53)], #[3]⟩), 3, none⟩,
      ⟨some 55, (.binOp .add 3 (.tmp 54) (.const (.int .i64 1)) 3), 3, none⟩,
      ⟨some 56, (.call ⟨(.builtin .max), #[(.tmp 44), (.tmp 55)], #[3, 3]⟩), 3, none⟩,
      ⟨some 7, (.assign (.tmp 56)), 3, none⟩] [(0, 1), (0, 2), (1, 2), (0, 3), (1, 3), (0, 4), (1, 4), (0, 5), (1, 5), (0, 6), (1, 6), (2, 6), (3, 6), (4, 6), (5, 6), (0, 7), (1, 7), (2, 7), (3, 7), (4, 7), (5, 7), (0, 8), (1, 8), (2, 8), (3, 8), (4, 8), (5, 8), (0, 9), (1, 9), (0, 10), (0, 11)])))
    (.reg [] [⟨some 57, (.binOp .add 3 (.tmp 40) (.const (.int .i64 1)) 3), 3, none⟩,
      ⟨some 40, (.move (.tmp 57)), 3, none⟩])))))))
    (.seq (.reg [] [⟨some 58, (.load 23 (.tmp 1)), 23, none⟩,
      ⟨some 59, (.move (.tmp 0)), 3, none⟩,
      ⟨some 60, (.move (.tmp 7)), 3, none⟩,
      ⟨some 61, (.indexAddr 23 (.tmp 58) (.tmp 59)), 0, none⟩,
      ⟨none, (.store 3 (.tmp 61) (.tmp 60)), 0, none⟩])
    (.seq (.reg [] [⟨some 62, (.move (.tmp 7)), 3, none⟩,
      ⟨some 6, (.assign (.tmp 62)), 3, none⟩])
    .ret))))))))
theorem CB81 {xs : List AV} {m m' : List (Nat × Option Box)} {r : AV} (hn : xs.length ≤ 63) (hm : (m.all fun p => p.2.isSome) = true) (h : vc Tryz.prog T [] A81 (FinB T [(.tmp 6)] m r m') ⟨envOf 0 xs, m⟩) : CallB Tryz.prog 81 xs m r m' :=
  callB_of tok mixed Tryz.func81 (by kernel_rfl) (by kernel_rfl) (by kernel_rfl : Tryz.f81.ntmps = 63) (by kernel_rfl : Tryz.f81.body.bind (strip 63 (fun _ => [])) = some A81) hn hm h

end Go.Proofs.YtkhddecnllcaiaaGreat
end

section
/- Plain: words put in order one by one, and sorted all at once, are the same. -/
namespace Go.Proofs.YtkhddecnllcaiaaGreat
open Go.Abs Go

/-- A word put in its place; left out if it is there. -/
def insM (x : Word) : List Word → List Word
  | [] => [x]
  | y :: l => if bef y x then y :: insM x l else if y = x then y :: l else x :: y :: l
theorem mem_insM {x z : Word} : ∀ {l : List Word}, z ∈ insM x l ↔ z = x ∨ z ∈ l
  | [] => by simp [insM]
  | y :: l => by
    rw [insM]
    split
    · simp only [List.mem_cons, mem_insM (l := l)]
      constructor
      · rintro (h | h | h)
        · exact .inr (.inl h)
        · exact .inl h
        · exact .inr (.inr h)
      · rintro (h | h | h)
        · exact .inr (.inl h)
        · exact .inl h
        · exact .inr (.inr h)
    · split
      · rename_i h
        subst h
        simp
      · simp
theorem insM_sorted {x : Word} : ∀ {l : List Word}, sortedW l → sortedW (insM x l)
  | [], _ => by simp [insM, sortedW]
  | y :: l, h => by
    have h0 := h
    unfold sortedW at h
    rw [List.pairwise_cons] at h
    rw [insM]
    split
    · rename_i hb
      unfold sortedW
      rw [List.pairwise_cons]
      refine ⟨fun z hz => ?_, insM_sorted h.2⟩
      rcases mem_insM.1 hz with rfl | hz
      · exact hb
      · exact h.1 z hz
    · rename_i hb
      split
      · exact h0
      · rename_i hne
        have hxy : bef x y = true := by
          rcases bef_total hne with e | e
          · exact absurd e hb
          · exact e
        unfold sortedW
        rw [List.pairwise_cons]
        refine ⟨fun z hz => ?_, h0⟩
        rcases List.mem_cons.1 hz with rfl | hz
        · exact hxy
        · exact bef_trans hxy (h.1 z hz)
theorem insM_len (x : Word) : ∀ l : List Word, (insM x l).length ≤ l.length + 1
  | [] => by simp [insM]
  | y :: l => by
    rw [insM]
    split
    · have := insM_len x l; simp; omega
    · split <;> simp
def insA : List Word → List Word → List Word
  | acc, [] => acc
  | acc, x :: l => insA (insM x acc) l
theorem insA_spec : ∀ (l acc : List Word), sortedW acc → sortedW (insA acc l) ∧ ∀ z, z ∈ insA acc l ↔ z ∈ acc ∨ z ∈ l
  | [], acc, h => ⟨h, fun z => by simp [insA]⟩
  | x :: l, acc, h => by
    obtain ⟨h1, h2⟩ := insA_spec l (insM x acc) (insM_sorted h)
    refine ⟨h1, fun z => ?_⟩
    rw [insA, h2, mem_insM, List.mem_cons]
    constructor
    · rintro ((h | h) | h)
      · exact .inr (.inl h)
      · exact .inl h
      · exact .inr (.inr h)
    · rintro (h | h | h)
      · exact .inl (.inr h)
      · exact .inl (.inl h)
      · exact .inr h
theorem insA_len : ∀ (l acc : List Word), (insA acc l).length ≤ acc.length + l.length
  | [], acc => by simp [insA]
  | x :: l, acc => by
    have := insA_len l (insM x acc)
    have := insM_len x acc
    rw [insA]; simp; omega
theorem compF_spec : ∀ (p : Word) (l : List Word), inOrder (p :: l) → sortedW (p :: compF p l) ∧ ∀ z, z ∈ p :: compF p l ↔ z ∈ p :: l
  | p, [], _ => by simp [compF, sortedW]
  | p, y :: l, h => by
    unfold inOrder at h
    rw [List.pairwise_cons] at h
    rw [compF]
    split
    · rename_i e
      subst e
      obtain ⟨h1, h2⟩ := compF_spec y l h.2
      exact ⟨h1, fun z => by rw [h2]; simp⟩
    · rename_i e
      obtain ⟨h1, h2⟩ := compF_spec y l h.2
      have hpy : bef p y = true := by
        rcases bef_total e with k | k
        · rw [h.1 y (by simp)] at k; cases k
        · exact k
      refine ⟨?_, fun z => ?_⟩
      · have h3 := h1
        unfold sortedW at h1 ⊢
        rw [List.pairwise_cons] at h1 ⊢
        refine ⟨fun z hz => ?_, h3⟩
        rcases List.mem_cons.1 hz with rfl | hz
        · exact hpy
        · exact bef_trans hpy (h1.1 z hz)
      · rw [List.mem_cons, h2, ← List.mem_cons]
theorem uniq_sorted (l : List Word) : sortedW (uniq l) ∧ ∀ z, z ∈ uniq l ↔ z ∈ l := by
  unfold uniq
  have ho := sortW_order l
  have hm : ∀ z, z ∈ sortW l ↔ z ∈ l := fun z => (sortW_perm l).mem_iff
  generalize sortW l = m at ho hm
  cases m with
  | nil => exact ⟨List.Pairwise.nil, fun z => by rw [← hm]; simp [compW]⟩
  | cons x m =>
    obtain ⟨h1, h2⟩ := compF_spec x m ho
    exact ⟨h1, fun z => by rw [← hm]; exact h2 z⟩
theorem uniq_insA {l m : List Word} (h : ∀ z, z ∈ l ↔ z ∈ m) : uniq l = insA [] m := by
  obtain ⟨h1, h2⟩ := uniq_sorted l
  obtain ⟨h3, h4⟩ := insA_spec m [] List.Pairwise.nil
  exact sorted_eq h1 h3 fun z => by rw [h2, h4]; simp [h]
end Go.Proofs.YtkhddecnllcaiaaGreat
end

section
/- Plain: the two searches, the program's and the reference's, find the same words. -/
namespace Go.Proofs.YtkhddecnllcaiaaGreat
open Go.Abs Go

theorem el_app_left {α : Type} [Inhabited α] (a b : List α) {i : Nat} (h : i < a.length) : el (a ++ b) i = el a i := by
  unfold el; rw [List.getD_eq_getElem?_getD, List.getD_eq_getElem?_getD, List.getElem?_append_left h]
theorem el_app_mid {α : Type} [Inhabited α] (a : List α) (x : α) : el (a ++ [x]) a.length = x := by
  unfold el; simp
theorem el_mapG {α β : Type} [Inhabited α] [Inhabited β] (f : α → β) (l : List α) {k : Nat} (h : k < l.length) : el (l.map f) k = f (el l k) := by
  rw [el_eq _ _ (by simpa using h), el_eq _ _ h]; simp
/-! ### the program's search -/
def nxP (s : List Rule) (v : Word) : List Word := (movesM s v).map (·.word)
/-- What whence and by which step say. -/
structure GrD (s : List Rule) (g : Gr) (ws : List WN) : Prop where
  words : g.ws = ws.map (·.1)
  frm : g.frm.length = ws.length
  stp : g.stp.length = ws.length
  root : 0 < ws.length → el g.frm 0 = -1
  back : ∀ j, 0 < j → j < ws.length → ∃ i : Nat, el g.frm j = (i : Int) ∧ i < j ∧ (el ws j).2 = (el ws i).2 + 1 ∧ (⟨el g.stp j, (el ws j).1⟩ : Move) ∈ movesM s (el ws i).1
theorem addG_F {s : List Rule} {i : Nat} : ∀ {l : List Move} {g : Gr} {ws : List WN}, GrD s g ws → i < ws.length → (∀ m ∈ l, m ∈ movesM s (el ws i).1) →
    match addG i g l, addF ((el ws i).2 + 1) ws (l.map (·.word)) with
    | some g', some ws' => GrD s g' ws'
    | none, none => True
    | _, _ => False
  | [], g, ws, h, _, _ => by simpa [addG, addF] using h
  | m :: l, g, ws, h, hi, hl => by
    rw [addG, List.map_cons, addF, h.words]
    by_cases hm : m.word ∈ ws.map (·.1)
    · rw [if_pos hm, if_pos hm]
      exact addG_F h hi fun x hx => hl x (by simp [hx])
    · rw [if_neg hm, if_neg hm, List.length_map]
      by_cases h3 : ws.length = 300
      · rw [if_pos h3, if_pos h3]; trivial
      · rw [if_neg h3, if_neg h3]
        have e : el (ws ++ [(m.word, (el ws i).2 + 1)]) i = el ws i := el_app_left _ _ hi
        have hn : GrD s ⟨ws.map (·.1) ++ [m.word], g.frm ++ [(i : Int)], g.stp ++ [m.step]⟩ (ws ++ [(m.word, (el ws i).2 + 1)]) := by
          refine ⟨by simp, by simp [h.frm], by simp [h.stp], fun _ => ?_, fun j h0 hj => ?_⟩
          · dsimp only
            rw [el_app_left _ _ (by have := h.frm; omega)]
            exact h.root (by omega)
          · dsimp only
            by_cases hjl : j < ws.length
            · obtain ⟨k, h1, h2, h4, h5⟩ := h.back j h0 hjl
              refine ⟨k, ?_, h2, ?_, ?_⟩
              · rw [el_app_left _ _ (by have := h.frm; omega)]; exact h1
              · rw [el_app_left _ _ hjl, el_app_left _ _ (by omega)]; exact h4
              · rw [el_app_left _ _ hjl, el_app_left _ _ (by omega), el_app_left _ _ (by have := h.stp; omega)]; exact h5
            · have hjl : j = ws.length := by simp at hj; omega
              subst hjl
              refine ⟨i, ?_, hi, ?_, ?_⟩
              · rw [← h.frm, el_app_mid]
              · rw [el_app_mid, e]
              · rw [el_app_mid, e, ← h.stp, el_app_mid]
                exact hl m (by simp)
        have ih := addG_F (i := i) (l := l) hn (by simp; omega) (fun x hx => by rw [e]; exact hl x (by simp [hx]))
        rw [e] at ih
        exact ih
theorem closeG_F {s : List Rule} : ∀ (n i : Nat) {g : Gr} {ws : List WN}, GrD s g ws →
    match closeG s n i g, closeF (nxP s) n i ws with
    | some g', some ws' => GrD s g' ws'
    | none, none => True
    | _, _ => False
  | 0, i, g, ws, h => by simpa [closeG, closeF] using h
  | n + 1, i, g, ws, h => by
    rw [closeG, closeF]
    have hl : g.ws.length = ws.length := by rw [h.words]; simp
    by_cases hi : i < ws.length
    · rw [if_pos (by omega), if_pos hi]
      have ew : el g.ws i = (el ws i).1 := by rw [h.words, el_mapG _ _ hi]
      have ha := addG_F (s := s) (i := i) (l := movesM s (el ws i).1) h hi (fun m hm => hm)
      rw [ew]
      unfold nxP at *
      cases h1 : addG i g (movesM s (el ws i).1) with
      | none =>
        cases h2 : addF ((el ws i).2 + 1) ws ((movesM s (el ws i).1).map (·.word)) with
        | none => trivial
        | some ws' => rw [h1, h2] at ha; exact ha.elim
      | some g' =>
        cases h2 : addF ((el ws i).2 + 1) ws ((movesM s (el ws i).1).map (·.word)) with
        | none => rw [h1, h2] at ha; exact ha.elim
        | some ws' =>
          rw [h1, h2] at ha
          exact closeG_F n (i + 1) ha
    · rw [if_neg (by omega), if_neg hi]
      exact h
theorem reachG_F (s : List Rule) (w : Word) :
    match reachG s w, closeM (nxP s) w with
    | some g', some ws' => GrD s g' ws'
    | none, none => True
    | _, _ => False := by
  refine closeG_F 301 0 ⟨rfl, rfl, rfl, fun _ => rfl, fun j h0 hj => ?_⟩
  simp at hj; omega
/-! ### the reference's search -/
def nxR (s : List Rule) (v : Word) : List Word := insA [] (nxP s v)
theorem mem_nxR {s : List Rule} {v x : Word} : x ∈ nxR s v ↔ x ∈ nxP s v := by
  unfold nxR
  rw [(insA_spec _ [] List.Pairwise.nil).2]
  simp
/-- The place of a word, or -1. -/
def findI (l : List Word) (w : Word) : Int := idxG (fun x => decide (x = w)) 0 l
theorem idxG_lt {α : Type} [Inhabited α] (p : α → Bool) : ∀ (l : List α) (k : Nat), idxG p k l = -1 ∨ ∃ i, i < l.length ∧ idxG p k l = ((k + i : Nat) : Int) ∧ p (el l i) = true
  | [], k => .inl rfl
  | x :: l, k => by
    by_cases h : p x = true
    · exact .inr ⟨0, by simp, by simp [idxG, h], by simpa [el] using h⟩
    · rcases idxG_lt p l (k + 1) with e | ⟨i, h1, h2, h3⟩
      · exact .inl (by simp [idxG, h, e])
      · refine .inr ⟨i + 1, by simp; omega, ?_, by simpa [el] using h3⟩
        rw [idxG, if_neg h, h2]
        omega
theorem findI_mem (l : List Word) (w : Word) : decide (0 ≤ findI l w) = decide (w ∈ l) := by
  unfold findI
  rw [idxG_any, Bool.eq_iff_iff]
  simp
theorem findI_spec {l : List Word} {w : Word} (h : w ∈ l) : ∃ i, i < l.length ∧ findI l w = (i : Int) ∧ el l i = w := by
  rcases idxG_lt (fun x => decide (x = w)) l 0 with e | ⟨i, h1, h2, h3⟩
  · have := findI_mem l w
    unfold findI at this
    rw [e] at this
    simp [h] at this
  · exact ⟨i, h1, by unfold findI; rw [h2]; simp, by simpa using h3⟩
theorem findI_no {l : List Word} {w : Word} (h : w ∉ l) : findI l w = -1 := by
  rcases idxG_lt (fun x => decide (x = w)) l 0 with e | ⟨i, h1, h2, h3⟩
  · exact e
  · simp only [decide_eq_true_eq] at h3
    exact absurd (by rw [← h3]; exact el_mem_of l i h1) h
structure RG where
  ws : List Word
  nx : List (List Int)
  far : List Int
/-- The words to which one leads: their places, and the new ones put at the end. -/
def raddG (d : Int) : List Word → List Int → List Int → List Word → Option (List Word × List Int × List Int)
  | ws, fr, l, [] => some (ws, fr, l)
  | ws, fr, l, v :: m => if findI ws v < 0 then if ws.length = 300 then none else raddG d (ws ++ [v]) (fr ++ [d]) (l ++ [(ws.length : Int)]) m else raddG d ws fr (l ++ [findI ws v]) m
def rcloseG (s : List Rule) : Nat → Nat → RG → Option RG
  | 0, _, g => some g
  | n + 1, i, g => if i < g.ws.length then match raddG (el g.far i + 1) g.ws g.far [] (nxR s (el g.ws i)) with
      | none => none
      | some (ws, fr, l) => rcloseG s n (i + 1) ⟨ws, g.nx ++ [l], fr⟩
    else some g
def rreachG (s : List Rule) (w : Word) : Option RG := rcloseG s 301 0 ⟨[w], [], [0]⟩
/-- A list of places of words. -/
def atsOf (ws : List Word) (l : List Int) (m : List Word) : Prop := l.length = m.length ∧ ∀ q, q < m.length → ∃ k : Nat, el l q = (k : Int) ∧ k < ws.length ∧ el ws k = el m q
theorem atsOf.more {ws : List Word} {l : List Int} {m : List Word} (h : atsOf ws l m) (t : List Word) : atsOf (ws ++ t) l m := by
  refine ⟨h.1, fun q hq => ?_⟩
  obtain ⟨k, h1, h2, h3⟩ := h.2 q hq
  exact ⟨k, h1, by simp; omega, by rw [el_app_left _ _ h2]; exact h3⟩
theorem atsOf.push {ws : List Word} {l : List Int} {m : List Word} (h : atsOf ws l m) {k : Nat} (hk : k < ws.length) : atsOf ws (l ++ [(k : Int)]) (m ++ [el ws k]) := by
  refine ⟨by simp [h.1], fun q hq => ?_⟩
  by_cases hq2 : q < m.length
  · obtain ⟨j, h1, h2, h3⟩ := h.2 q hq2
    exact ⟨j, by rw [el_app_left _ _ (by have := h.1; omega)]; exact h1, h2, by rw [el_app_left _ _ hq2]; exact h3⟩
  · have hq3 : q = m.length := by simp at hq; omega
    subst hq3
    exact ⟨k, by rw [← h.1, el_app_mid], hk, by rw [el_app_mid]⟩
theorem raddG_F {d : Nat} : ∀ {m : List Word} {ws : List WN} {l : List Int} {m0 : List Word}, atsOf (ws.map (·.1)) l m0 →
    match raddG (d : Int) (ws.map (·.1)) (ws.map fun x => (x.2 : Int)) l m, addF d ws m with
    | some r, some ws' => r.1 = ws'.map (·.1) ∧ r.2.1 = ws'.map (fun x => (x.2 : Int)) ∧ (∃ t, ws' = ws ++ t) ∧ atsOf (ws'.map (·.1)) r.2.2 (m0 ++ m)
    | none, none => True
    | _, _ => False
  | [], ws, l, m0, h => by
    rw [raddG, addF]
    exact ⟨rfl, rfl, ⟨[], by simp⟩, by simpa using h⟩
  | v :: m, ws, l, m0, h => by
    rw [raddG, addF]
    by_cases hv : v ∈ ws.map (·.1)
    · obtain ⟨i, h1, h2, h3⟩ := findI_spec hv
      rw [if_pos hv, if_neg (by omega), h2]
      have hp := h.push h1
      rw [h3] at hp
      have ih := raddG_F (d := d) (m := m) hp
      rw [List.append_assoc, List.singleton_append] at ih
      exact ih
    · rw [if_neg hv, if_pos (by rw [findI_no hv]; decide), List.length_map]
      by_cases h3 : ws.length = 300
      · rw [if_pos h3, if_pos h3]; trivial
      · rw [if_neg h3, if_neg h3]
        have hm : atsOf ((ws ++ [(v, d)]).map (·.1)) l m0 := by
          rw [List.map_append]
          exact h.more _
        have hp := hm.push (k := ws.length) (by simp)
        have e : el ((ws ++ [(v, d)]).map (·.1)) ws.length = v := by
          have := el_app_mid (ws.map (·.1)) v
          rw [List.length_map] at this
          simpa using this
        rw [e] at hp
        have ih := raddG_F (d := d) (m := m) hp
        rw [List.append_assoc, List.singleton_append] at ih
        rw [show ws.map (·.1) ++ [v] = (ws ++ [(v, d)]).map (·.1) by simp, show (ws.map fun x => (x.2 : Int)) ++ [(d : Int)] = (ws ++ [(v, d)]).map fun x => (x.2 : Int) by simp]
        revert ih
        cases raddG (d : Int) ((ws ++ [(v, d)]).map (·.1)) ((ws ++ [(v, d)]).map fun x => (x.2 : Int)) (l ++ [(ws.length : Int)]) m with
        | none =>
          cases addF d (ws ++ [(v, d)]) m with
          | none => intro _; trivial
          | some ws' => intro ih; exact ih.elim
        | some r =>
          cases addF d (ws ++ [(v, d)]) m with
          | none => intro ih; exact ih
          | some ws' =>
            rintro ⟨h1, h2, ⟨t, h4⟩, h5⟩
            exact ⟨h1, h2, ⟨(v, d) :: t, by rw [h4]; simp⟩, h5⟩
/-- What the reference's graph is. -/
structure RGD (s : List Rule) (i : Nat) (g : RG) (ws : List WN) : Prop where
  words : g.ws = ws.map (·.1)
  far : g.far = ws.map fun x => (x.2 : Int)
  num : g.nx.length = i
  nx : ∀ j, j < i → atsOf g.ws (el g.nx j) (nxR s (el g.ws j))
theorem rcloseG_F {s : List Rule} : ∀ (n i : Nat) {g : RG} {ws : List WN}, n + i = 301 → ws.length ≤ 300 → i ≤ ws.length → RGD s i g ws →
    match rcloseG s n i g, closeF (nxR s) n i ws with
    | some g', some ws' => RGD s ws'.length g' ws' ∧ ws'.length ≤ 300
    | none, none => True
    | _, _ => False
  | 0, i, g, ws, hn, hw, hi, h => by omega
  | n + 1, i, g, ws, hn, hw, hi, h => by
    rw [rcloseG, closeF]
    have hl : g.ws.length = ws.length := by rw [h.words]; simp
    by_cases hi2 : i < ws.length
    · rw [if_pos (by omega), if_pos hi2]
      have ew : el g.ws i = (el ws i).1 := by rw [h.words, el_mapG _ _ hi2]
      have ef : el g.far i + 1 = (((el ws i).2 + 1 : Nat) : Int) := by rw [h.far, el_mapG _ _ hi2]; omega
      have ha := raddG_F (d := (el ws i).2 + 1) (m := nxR s (el ws i).1) (ws := ws) (l := []) (m0 := []) ⟨rfl, fun q hq => by simp at hq⟩
      rw [ew, ef, h.words, h.far]
      cases h1 : raddG (((el ws i).2 + 1 : Nat) : Int) (ws.map (·.1)) (ws.map fun x => (x.2 : Int)) [] (nxR s (el ws i).1) with
      | none =>
        cases h2 : addF ((el ws i).2 + 1) ws (nxR s (el ws i).1) with
        | none => trivial
        | some ws' => rw [h1, h2] at ha; exact ha.elim
      | some r =>
        cases h2 : addF ((el ws i).2 + 1) ws (nxR s (el ws i).1) with
        | none => rw [h1, h2] at ha; exact ha.elim
        | some ws' =>
          rw [h1, h2] at ha
          obtain ⟨a1, a2, ⟨t, a3⟩, a4⟩ := ha
          obtain ⟨rw1, rw2, rw3⟩ := r
          dsimp only at a1 a2 a4 ⊢
          have hlen : ws'.length ≤ 300 := by
            have key : ∀ (m : List Word) (d : Nat) (ws ws' : List WN), ws.length ≤ 300 → addF d ws m = some ws' → ws'.length ≤ 300 := by
              intro m
              induction m with
              | nil => intro d ws ws' hw h; simp only [addF, Option.some.injEq] at h; subst h; exact hw
              | cons v m ih =>
                intro d ws ws' hw h
                rw [addF] at h
                split at h
                · exact ih d ws ws' hw h
                · split at h
                  · cases h
                  · rename_i h300
                    exact ih d _ ws' (by simp; omega) h
            exact key _ _ _ _ hw h2
          refine rcloseG_F n (i + 1) (by omega) hlen (by rw [a3]; simp; omega) ⟨a1, a2, by simp [h.num], fun j hj => ?_⟩
          dsimp only
          by_cases hj2 : j < i
          · rw [el_app_left _ _ (by have := h.num; omega)]
            have := (h.nx j hj2).more (t.map (·.1))
            have e1 : g.ws ++ t.map (·.1) = rw1 := by rw [a1, a3, h.words]; simp
            rw [e1] at this
            have e2 : el rw1 j = el g.ws j := by rw [← e1, el_app_left _ _ (by omega)]
            rw [e2]; exact this
          · have hj3 : j = i := by omega
            subst hj3
            have e1 : el (g.nx ++ [rw3]) j = rw3 := by
              have := el_app_mid g.nx rw3
              rw [h.num] at this; exact this
            have e2 : el rw1 j = (el ws j).1 := by rw [a1, a3, el_mapG _ _ (by simp; omega), el_app_left _ _ hi2]
            rw [e1, e2, a1]
            simpa using a4
    · rw [if_neg (by omega), if_neg hi2]
      have : i = ws.length := by omega
      subst this
      exact ⟨h, hw⟩
theorem rreachG_F (s : List Rule) (w : Word) :
    match rreachG s w, closeM (nxR s) w with
    | some g', some ws' => RGD s ws'.length g' ws' ∧ ws'.length ≤ 300
    | none, none => True
    | _, _ => False := by
  refine rcloseG_F 301 0 (by omega) (by simp) (by simp) ⟨rfl, rfl, rfl, fun j hj => by omega⟩
/-- Both searches, side by side. -/
theorem graphs_same (s : List Rule) (w : Word) :
    match reachG s w, rreachG s w with
    | some g, some r => ∃ ws rs : List WN, GrD s g ws ∧ RGD s rs.length r rs ∧ Closed (nxP s) w ws ∧ Closed (nxR s) w rs ∧ ∀ y, y ∈ ws ↔ y ∈ rs
    | none, none => True
    | _, _ => False := by
  have h1 := reachG_F s w
  have h2 := rreachG_F s w
  have h3 := closeM_same (nx := nxP s) (nx' := nxR s) (fun v x => mem_nxR.symm) w
  cases c1 : closeM (nxP s) w with
  | none =>
    cases c2 : closeM (nxR s) w with
    | none =>
      rw [c1] at h1; rw [c2] at h2
      cases g1 : reachG s w with
      | none =>
        cases g2 : rreachG s w with
        | none => trivial
        | some r => rw [g2] at h2; exact h2.elim
      | some g => rw [g1] at h1; exact h1.elim
    | some rs => rw [c1, c2] at h3; exact h3.elim
  | some ws =>
    cases c2 : closeM (nxR s) w with
    | none => rw [c1, c2] at h3; exact h3.elim
    | some rs =>
      rw [c1, c2] at h3
      rw [c1] at h1; rw [c2] at h2
      cases g1 : reachG s w with
      | none => rw [g1] at h1; exact h1.elim
      | some g =>
        cases g2 : rreachG s w with
        | none => rw [g2] at h2; exact h2.elim
        | some r =>
          rw [g1] at h1; rw [g2] at h2
          exact ⟨ws, rs, h1, h2.1, closeM_some c1, closeM_some c2, h3⟩
end Go.Proofs.YtkhddecnllcaiaaGreat
end

section
/- Plain: walks in a finite graph; the longest one, found in rounds and by going deep. -/
namespace Go.Proofs.YtkhddecnllcaiaaGreat
open Go.Abs Go

variable {nx : Word → List Word}
theorem ReachN.split {u v : Word} : ∀ {n m : Nat}, ReachN nx u (n + m) v → ∃ x, ReachN nx u n x ∧ ReachN nx x m v
  | n, 0, h => ⟨v, h, .zero⟩
  | n, m + 1, h => by
    cases h with
    | succ h hx =>
      obtain ⟨x, h1, h2⟩ := ReachN.split (n := n) (m := m) h
      exact ⟨x, h1, .succ h2 hx⟩
theorem ReachN.first {u v : Word} {n : Nat} (h : ReachN nx u (n + 1) v) : ∃ x, x ∈ nx u ∧ ReachN nx x n v := by
  rw [Nat.add_comm] at h
  obtain ⟨x, h1, h2⟩ := ReachN.split (n := 1) (m := n) h
  cases h1 with
  | succ h3 hx =>
    cases h3 with
    | zero => exact ⟨x, hx, h2⟩
theorem ReachN.cons {u x v : Word} {n : Nat} (hx : x ∈ nx u) (h : ReachN nx x n v) : ReachN nx u (n + 1) v := by
  have : ReachN nx u 1 x := .succ .zero hx
  have := this.trans h
  rwa [Nat.add_comm] at this
theorem ReachN.around {x : Word} {c : Nat} (h : ReachN nx x c x) : ∀ m, ReachN nx x (c * m) x
  | 0 => .zero
  | m + 1 => by rw [Nat.mul_succ]; exact (ReachN.around h m).trans h
/-- Steps go on for ever. -/
def EverR (nx : Word → List Word) (w : Word) : Prop := ∀ n, ∃ x, ReachN nx w n x
theorem ever_of_cycle {w x : Word} {k c : Nat} (h : ReachN nx w k x) (hc : 1 ≤ c) (hx : ReachN nx x c x) : EverR nx w := by
  intro n
  have h1 : ReachN nx w (k + c * n) x := h.trans (hx.around n)
  have h2 : n ≤ k + c * n := by
    have : 1 * n ≤ c * n := Nat.mul_le_mul_right n hc
    omega
  obtain ⟨d, hd⟩ : ∃ d, k + c * n = n + d := ⟨k + c * n - n, by omega⟩
  rw [hd] at h1
  obtain ⟨y, h3, _⟩ := h1.split
  exact ⟨y, h3⟩
/-- The greatest number of steps, or none if they go on for ever. -/
structure LongR (nx : Word → List Word) (w : Word) (n : Int) (ok : Bool) : Prop where
  fin : ok = true → (∃ m : Nat, n = (m : Int) ∧ ∃ x, ReachN nx w m x) ∧ ∀ (m : Nat) (x : Word), ReachN nx w m x → (m : Int) ≤ n
  ever : ok = false → n = 0 ∧ EverR nx w
theorem LongR.same {w : Word} {n m : Int} {a b : Bool} (h : LongR nx w n a) (k : LongR nx w m b) : n = m ∧ a = b := by
  cases a with
  | true =>
    obtain ⟨⟨x, hx, y, hy⟩, h2⟩ := h.fin rfl
    cases b with
    | true =>
      obtain ⟨⟨x', hx', y', hy'⟩, h2'⟩ := k.fin rfl
      have := h2 _ _ hy'
      have := h2' _ _ hy
      exact ⟨by omega, rfl⟩
    | false =>
      obtain ⟨_, h3⟩ := k.ever rfl
      obtain ⟨z, hz⟩ := h3 (x + 1)
      have := h2 _ _ hz
      omega
  | false =>
    obtain ⟨h0, h3⟩ := h.ever rfl
    cases b with
    | true =>
      obtain ⟨⟨x', hx', y', hy'⟩, h2'⟩ := k.fin rfl
      obtain ⟨z, hz⟩ := h3 (x' + 1)
      have := h2' _ _ hz
      omega
    | false => exact ⟨by rw [h0, (k.ever rfl).1], rfl⟩
theorem LongR.congr {nx' : Word → List Word} (he : ∀ v x, x ∈ nx v ↔ x ∈ nx' v) {w : Word} {n : Int} {a : Bool} (h : LongR nx w n a) : LongR nx' w n a := by
  refine ⟨fun ha => ?_, fun ha => ?_⟩
  · obtain ⟨⟨m, h1, x, h2⟩, h3⟩ := h.fin ha
    exact ⟨⟨m, h1, x, h2.congr he⟩, fun k y hy => h3 k y (hy.congr fun v x => (he v x).symm)⟩
  · obtain ⟨h1, h2⟩ := h.ever ha
    exact ⟨h1, fun n => by obtain ⟨x, hx⟩ := h2 n; exact ⟨x, hx.congr he⟩⟩
/-- What holds while edges are gone through. -/
structure RelOK (nx : Word → List Word) (ws : List Word) (o : List Int) (b : Int) : Prop where
  len : o.length = ws.length
  walk : ∀ i, i < ws.length → ∃ n : Nat, el o i = (n : Int) ∧ ∃ u ∈ ws, ReachN nx u n (el ws i)
  top : ∀ i, i < ws.length → el o i ≤ b
  best : b = 0 ∨ ∃ i, i < ws.length ∧ el o i = b
  pos : 0 ≤ b
/-- The edges of a graph of words. -/
structure EdgesOK (nx : Word → List Word) (ws : List Word) (es : List (Nat × Nat)) : Prop where
  lt : ∀ e ∈ es, e.1 < ws.length ∧ e.2 < ws.length ∧ el ws e.2 ∈ nx (el ws e.1)
  all : ∀ i, i < ws.length → ∀ x ∈ nx (el ws i), ∃ j, (i, j) ∈ es ∧ el ws j = x
theorem el_setG {α : Type} [Inhabited α] (o : List α) (i k : Nat) (v : α) (hi : i < o.length) : el (o.set i v) k = if i = k then v else el o k := by
  unfold el
  rw [List.getD_eq_getElem?_getD, List.getElem?_set]
  by_cases h : i = k
  · subst h; simp [hi]
  · simp [h]
/-- The words that are reached, and no others. -/
structure AllOK (nx : Word → List Word) (w : Word) (ws : List Word) : Prop where
  mem : w ∈ ws
  reach : ∀ x ∈ ws, ∃ n, ReachN nx w n x
  all : ∀ n x, ReachN nx w n x → x ∈ ws
end Go.Proofs.YtkhddecnllcaiaaGreat
end

section
/- Plain: the longest walk, found by going deep. -/
namespace Go.Proofs.YtkhddecnllcaiaaGreat
open Go.Abs Go

variable {nx : Word → List Word}
/-- How far the search is: of each word the greatest number of steps, -2 before it is asked, -1 while it is; and whether a circle was met. -/
abbrev DS := List Int × Bool
def eachM (f : Nat → DS → DS × Int) : List Nat → DS → Int → DS × Int
  | [], s, m => (s, m)
  | j :: l, s, m => eachM f l (f j s).1 (max m ((f j s).2 + 1))
def downM (sc : Nat → List Nat) : Nat → Nat → DS → DS × Int
  | 0, _, s => (s, 0)
  | n + 1, i, s =>
    if el s.1 i = -1 then ((s.1, true), 0)
    else if el s.1 i ≠ -2 then (s, el s.1 i)
    else (((eachM (downM sc n) (sc i) (s.1.set i (-1), s.2) 0).1.1.set i (eachM (downM sc n) (sc i) (s.1.set i (-1), s.2) 0).2, (eachM (downM sc n) (sc i) (s.1.set i (-1), s.2) 0).1.2),
      (eachM (downM sc n) (sc i) (s.1.set i (-1), s.2) 0).2)
structure ScOK (nx : Word → List Word) (ws : List Word) (sc : Nat → List Nat) : Prop where
  lt : ∀ i, i < ws.length → ∀ j ∈ sc i, j < ws.length ∧ el ws j ∈ nx (el ws i)
  all : ∀ i, i < ws.length → ∀ x ∈ nx (el ws i), ∃ j ∈ sc i, el ws j = x
/-- How many have not been asked; how many are done. -/
def cntU (f : List Int) : Nat := f.countP fun x => decide (x = -2)
def cntC (f : List Int) : Nat := f.countP fun x => decide (0 ≤ x)
theorem countP_set {p : Int → Bool} : ∀ (l : List Int) (i : Nat) (v : Int), i < l.length → (l.set i v).countP p + (if p (el l i) then 1 else 0) = l.countP p + (if p v then 1 else 0)
  | [], i, v, h => by simp at h
  | x :: l, 0, v, _ => by
    simp only [List.set_cons_zero, List.countP_cons, el, List.getD_cons_zero]
    omega
  | x :: l, i + 1, v, h => by
    have ih := countP_set (p := p) l i v (by simpa using h)
    have e : el (x :: l) (i + 1) = el l i := by simp [el]
    rw [e]
    simp only [List.set_cons_succ, List.countP_cons]
    omega
/-- What is done is right. -/
def FineD (sc : Nat → List Nat) (f : List Int) : Prop := ∀ i, i < f.length → 0 ≤ el f i →
  (∀ j ∈ sc i, 0 ≤ el f j ∧ el f j + 1 ≤ el f i) ∧ (el f i = 0 ∨ ∃ j ∈ sc i, el f j + 1 = el f i)
/-- A circle. -/
def Cyc (nx : Word → List Word) (ws : List Word) : Prop := ∃ x ∈ ws, ∃ n, 1 ≤ n ∧ ReachN nx x n x
structure DOK (N : Nat) (f : List Int) : Prop where
  len : f.length = N
  low : ∀ k, k < N → -2 ≤ el f k
  top : ∀ k, k < N → el f k ≤ (cntC f : Int)
structure DStep (sc : Nat → List Nat) (N : Nat) (C : Prop) (f : List Int) (e : Bool) (f' : List Int) (e' : Bool) : Prop where
  ok : DOK N f'
  keep : ∀ k, k < N → el f k ≠ -2 → el f' k = el f k
  new : ∀ k, k < N → el f k = -2 → el f' k = -2 ∨ 0 ≤ el f' k
  cnt : cntU f' ≤ cntU f
  cyc : e' = true → e = true ∨ C
  fine : e' = false → e = false ∧ (FineD sc f → FineD sc f')
theorem DStep.trans {sc : Nat → List Nat} {N : Nat} {C : Prop} {f f' f'' : List Int} {e e' e'' : Bool} (h : DStep sc N C f e f' e') (k : DStep sc N C f' e' f'' e'') : DStep sc N C f e f'' e'' := by
  refine ⟨k.ok, fun i hi hn => ?_, fun i hi hn => ?_, Nat.le_trans k.cnt h.cnt, fun he => ?_, fun he => ?_⟩
  · have := h.keep i hi hn
    rw [k.keep i hi (by rw [this]; exact hn), this]
  · rcases h.new i hi hn with e | e
    · exact k.new i hi e
    · have := k.keep i hi (by omega)
      right; omega
  · rcases k.cyc he with e | e
    · exact h.cyc e
    · exact .inr e
  · obtain ⟨h1, h2⟩ := k.fine he
    obtain ⟨h3, h4⟩ := h.fine h1
    exact ⟨h3, fun hf => h2 (h4 hf)⟩
theorem DStep.refl {sc : Nat → List Nat} {N : Nat} {C : Prop} {f : List Int} {e : Bool} (h : DOK N f) : DStep sc N C f e f e :=
  ⟨h, fun _ _ _ => rfl, fun _ _ h => .inl h, Nat.le_refl _, fun h => .inl h, fun h => ⟨h, fun k => k⟩⟩
theorem cntC_le (f : List Int) : cntC f ≤ f.length := List.countP_le_length
theorem cntC_grow : ∀ {f f' : List Int}, f.length = f'.length → (∀ k, k < f.length → 0 ≤ el f k → 0 ≤ el f' k) → cntC f ≤ cntC f'
  | [], [], _, _ => Nat.le_refl _
  | [], _ :: _, h, _ => by simp at h
  | _ :: _, [], h, _ => by simp at h
  | x :: f, y :: f', h, hk => by
    have h0 := hk 0 (by simp)
    have ih := cntC_grow (f := f) (f' := f') (by simpa using h) fun k hk2 hx => by
      have := hk (k + 1) (by simpa using hk2) (by simpa [el] using hx)
      simpa [el] using this
    simp only [el, List.getD_cons_zero] at h0
    unfold cntC at *
    simp only [List.countP_cons]
    by_cases hx : 0 ≤ x
    · have := h0 hx
      simp [hx, this]; exact ih
    · simp [hx]; omega
theorem each_spec {ws : List Word} {sc : Nat → List Nat} {C : Prop} {d : Nat → DS → DS × Int} {i : Nat} {n : Nat}
    (hd : ∀ j ∈ sc i, ∀ (f : List Int) (e : Bool), DOK ws.length f → cntU f < n → (∀ k, k < ws.length → el f k = -1 → ∃ m, 1 ≤ m ∧ ReachN nx (el ws k) m (el ws j)) →
      DStep sc ws.length C f e (d j (f, e)).1.1 (d j (f, e)).1.2 ∧ 0 ≤ (d j (f, e)).2 ∧ (d j (f, e)).2 ≤ (cntC (d j (f, e)).1.1 : Int) ∧
      ((d j (f, e)).1.2 = false → FineD sc f → (d j (f, e)).2 = el (d j (f, e)).1.1 j ∧ 0 ≤ el (d j (f, e)).1.1 j)) :
    ∀ (l : List Nat) (f : List Int) (e : Bool) (m : Int), (∀ j ∈ l, j ∈ sc i ∧ j < ws.length) → DOK ws.length f → cntU f < n → 0 ≤ m → m ≤ (cntC f : Int) + 1 →
      (∀ j ∈ l, ∀ k, k < ws.length → el f k = -1 → ∃ m, 1 ≤ m ∧ ReachN nx (el ws k) m (el ws j)) →
      DStep sc ws.length C f e (eachM d l (f, e) m).1.1 (eachM d l (f, e) m).1.2 ∧ m ≤ (eachM d l (f, e) m).2 ∧ (eachM d l (f, e) m).2 ≤ (cntC (eachM d l (f, e) m).1.1 : Int) + 1 ∧
      ((eachM d l (f, e) m).1.2 = false → FineD sc f →
        (∀ j ∈ l, 0 ≤ el (eachM d l (f, e) m).1.1 j ∧ el (eachM d l (f, e) m).1.1 j + 1 ≤ (eachM d l (f, e) m).2) ∧
        ((eachM d l (f, e) m).2 = m ∨ ∃ j ∈ l, el (eachM d l (f, e) m).1.1 j + 1 = (eachM d l (f, e) m).2))
  | [], f, e, m, _, hf, _, _, hm, _ => by
    simp only [eachM]
    exact ⟨DStep.refl hf, Int.le_refl _, hm, fun _ _ => by simp⟩
  | j :: l, f, e, m, hl, hf, hn, h0, hm, hop => by
    obtain ⟨hj, hjl⟩ := hl j (by simp)
    obtain ⟨a1, a2, a3, a4⟩ := hd j hj f e hf hn (hop j (by simp))
    rw [eachM]
    generalize hq : d j (f, e) = q at *
    obtain ⟨⟨f', e'⟩, v⟩ := q
    dsimp only at *
    have hcc : cntC f ≤ cntC f' := cntC_grow (by rw [hf.len, a1.ok.len]) fun k hk hx => by
      rw [hf.len] at hk
      have := a1.keep k hk (by omega)
      omega
    have ih := each_spec hd l f' e' (max m (v + 1)) (fun x hx => hl x (by simp [hx])) a1.ok (by have := a1.cnt; omega) (by omega) (by omega) (fun x hx k hk hk1 => by
      refine hop x (by simp [hx]) k hk ?_
      by_cases h2 : el f k = -2
      · rcases a1.new k hk h2 with e | e <;> omega
      · have := a1.keep k hk h2; omega)
    obtain ⟨b1, b2, b3, b4⟩ := ih
    refine ⟨a1.trans b1, by omega, b3, fun he hfi => ?_⟩
    have he' := (b1.fine he).1
    have hfi' := (a1.fine he').2 hfi
    obtain ⟨c1, c2⟩ := b4 he hfi'
    obtain ⟨d1, d2⟩ := a4 he' hfi
    have hk := b1.keep j hjl (by omega)
    refine ⟨fun x hx => ?_, ?_⟩
    · rcases List.mem_cons.1 hx with rfl | hx
      · rw [hk]; exact ⟨d2, by omega⟩
      · exact c1 x hx
    · rcases c2 with e1 | ⟨x, hx, e1⟩
      · by_cases hmv : v + 1 ≤ m
        · left; omega
        · exact .inr ⟨j, by simp, by rw [hk]; omega⟩
      · exact .inr ⟨x, by simp [hx], e1⟩
theorem down_spec {ws : List Word} {sc : Nat → List Nat} (hsc : ∀ i, i < ws.length → ∀ j ∈ sc i, j < ws.length ∧ el ws j ∈ nx (el ws i)) : ∀ (n i : Nat), i < ws.length → ∀ (f : List Int) (e : Bool), DOK ws.length f → cntU f < n →
    (∀ k, k < ws.length → el f k = -1 → ∃ m, 1 ≤ m ∧ ReachN nx (el ws k) m (el ws i)) →
    DStep sc ws.length (Cyc nx ws) f e (downM sc n i (f, e)).1.1 (downM sc n i (f, e)).1.2 ∧ 0 ≤ (downM sc n i (f, e)).2 ∧ (downM sc n i (f, e)).2 ≤ (cntC (downM sc n i (f, e)).1.1 : Int) ∧
    ((downM sc n i (f, e)).1.2 = false → FineD sc f → (downM sc n i (f, e)).2 = el (downM sc n i (f, e)).1.1 i ∧ 0 ≤ el (downM sc n i (f, e)).1.1 i)
  | 0, i, hi, f, e, hf, hn, _ => by omega
  | n + 1, i, hi, f, e, hf, hn, hop => by
    rw [downM]
    by_cases h1 : el f i = -1
    · rw [if_pos (by exact h1)]
      obtain ⟨m, hm1, hm2⟩ := hop i hi h1
      dsimp only
      refine ⟨⟨hf, fun _ _ _ => rfl, fun _ _ h => .inl h, Nat.le_refl _, fun _ => .inr ⟨_, el_mem_of ws i hi, m, hm1, hm2⟩, fun h => by cases h⟩, by omega, by omega, fun h => by cases h⟩
    · rw [if_neg (by exact h1)]
      by_cases h2 : el f i = -2
      · rw [if_neg (by simpa using h2)]
        dsimp only
        have hil : i < f.length := by rw [hf.len]; exact hi
        have hU := countP_set (p := fun x => decide (x = -2)) f i (-1) hil
        have hC := countP_set (p := fun x => decide (0 ≤ x)) f i (-1) hil
        simp [h2] at hU hC
        have eC : cntC (f.set i (-1)) = cntC f := hC
        have eU : cntU (f.set i (-1)) + 1 = cntU f := hU
        have hop' : ∀ j ∈ sc i, ∀ k, k < ws.length → el (f.set i (-1)) k = -1 → ∃ m, 1 ≤ m ∧ ReachN nx (el ws k) m (el ws j) := by
          intro j hj k hk hk1
          have hx := (hsc i hi j hj).2
          by_cases hik : i = k
          · subst hik
            exact ⟨1, Nat.le_refl 1, .succ .zero hx⟩
          · rw [el_setG _ _ _ _ hil, if_neg hik] at hk1
            obtain ⟨m, hm1, hm2⟩ := hop k hk hk1
            exact ⟨m + 1, by omega, .succ hm2 hx⟩
        have hf' : DOK ws.length (f.set i (-1)) := by
          refine ⟨by simpa using hf.len, fun k hk => ?_, fun k hk => ?_⟩
          · rw [el_setG _ _ _ _ hil]
            have := hf.low k hk
            split <;> omega
          · rw [el_setG _ _ _ _ hil, eC]
            have := hf.top k hk
            split <;> omega
        have hE := each_spec (nx := nx) (ws := ws) (sc := sc) (C := Cyc nx ws) (d := downM sc n) (i := i) (n := n)
          (fun j hj g e' hg hgn hgo => down_spec hsc n j (hsc i hi j hj).1 g e' hg hgn hgo)
          (sc i) (f.set i (-1)) e 0 (fun j hj => ⟨hj, (hsc i hi j hj).1⟩) hf' (by omega) (by omega) (by omega) (fun j hj => hop' j hj)
        generalize hq : eachM (downM sc n) (sc i) (f.set i (-1), e) 0 = q at *
        obtain ⟨⟨g, e'⟩, v⟩ := q
        dsimp only at *
        obtain ⟨b1, b2, b3, b4⟩ := hE
        have hgl : i < g.length := by rw [b1.ok.len]; exact hi
        have hgi : el g i = -1 := by
          rw [b1.keep i hi ?_, el_setG _ _ _ _ hil, if_pos rfl]
          rw [el_setG _ _ _ _ hil, if_pos rfl]; decide
        have hCg := countP_set (p := fun x => decide (0 ≤ x)) g i v hgl
        have hUg := countP_set (p := fun x => decide (x = -2)) g i v hgl
        simp [hgi, b2, show v ≠ -2 by omega] at hCg hUg
        have eCg : cntC (g.set i v) = cntC g + 1 := hCg
        have eUg : cntU (g.set i v) = cntU g := hUg
        have hstep : DStep sc ws.length (Cyc nx ws) f e (g.set i v) e' := by
          refine ⟨⟨by simpa using b1.ok.len, fun k hk => ?_, fun k hk => ?_⟩, fun k hk hne => ?_, fun k hk hk2 => ?_, ?_, b1.cyc, fun he => ⟨(b1.fine he).1, fun hfi => ?_⟩⟩
          · rw [el_setG _ _ _ _ hgl]
            have := b1.ok.low k hk
            split <;> omega
          · rw [el_setG _ _ _ _ hgl, eCg]
            have := b1.ok.top k hk
            split <;> omega
          · have hik : ¬ i = k := fun e => hne (by rw [← e]; exact h2)
            rw [el_setG _ _ _ _ hgl, if_neg hik, b1.keep k hk ?_, el_setG _ _ _ _ hil, if_neg hik]
            rw [el_setG _ _ _ _ hil, if_neg hik]; exact hne
          · by_cases hik : i = k
            · rw [el_setG _ _ _ _ hgl, if_pos hik]; exact .inr b2
            · rw [el_setG _ _ _ _ hgl, if_neg hik]
              exact b1.new k hk (by rw [el_setG _ _ _ _ hil, if_neg hik]; exact hk2)
          · have := b1.cnt; omega
          · have hfi1 : FineD sc (f.set i (-1)) := by
              intro x hx hx0
              have hix : ¬ i = x := by
                intro e; subst e
                rw [el_setG _ _ _ _ hil, if_pos rfl] at hx0; omega
              rw [List.length_set] at hx
              rw [el_setG _ _ _ _ hil, if_neg hix] at hx0 ⊢
              obtain ⟨k1, k2⟩ := hfi x hx hx0
              refine ⟨fun j hj => ?_, ?_⟩
              · have := k1 j hj
                have hij : ¬ i = j := by intro e; subst e; omega
                rw [el_setG _ _ _ _ hil, if_neg hij]; exact this
              · rcases k2 with k2 | ⟨j, hj, k2⟩
                · exact .inl k2
                · have := k1 j hj
                  have hij : ¬ i = j := by intro e; subst e; omega
                  exact .inr ⟨j, hj, by rw [el_setG _ _ _ _ hil, if_neg hij]; exact k2⟩
            have hfg := (b1.fine he).2 hfi1
            obtain ⟨c1, c2⟩ := b4 he hfi1
            intro x hx hx0
            rw [List.length_set] at hx
            by_cases hix : i = x
            · subst hix
              rw [el_setG _ _ _ _ hgl, if_pos rfl]
              refine ⟨fun j hj => ?_, ?_⟩
              · have := c1 j hj
                have hij : ¬ i = j := by intro e; subst e; omega
                rw [el_setG _ _ _ _ hgl, if_neg hij]; exact this
              · rcases c2 with k2 | ⟨j, hj, k2⟩
                · exact .inl k2
                · have := c1 j hj
                  have hij : ¬ i = j := by intro e; subst e; omega
                  exact .inr ⟨j, hj, by rw [el_setG _ _ _ _ hgl, if_neg hij]; exact k2⟩
            · rw [el_setG _ _ _ _ hgl, if_neg hix] at hx0 ⊢
              obtain ⟨k1, k2⟩ := hfg x hx hx0
              refine ⟨fun j hj => ?_, ?_⟩
              · have := k1 j hj
                have hij : ¬ i = j := by intro e; subst e; omega
                rw [el_setG _ _ _ _ hgl, if_neg hij]; exact this
              · rcases k2 with k2 | ⟨j, hj, k2⟩
                · exact .inl k2
                · have := k1 j hj
                  have hij : ¬ i = j := by intro e; subst e; omega
                  exact .inr ⟨j, hj, by rw [el_setG _ _ _ _ hgl, if_neg hij]; exact k2⟩
        refine ⟨hstep, b2, by omega, fun _ _ => ?_⟩
        rw [el_setG _ _ _ _ hgl, if_pos rfl]
        exact ⟨rfl, b2⟩
      · rw [if_pos (by exact h2)]
        dsimp only
        have hlow := hf.low i hi
        have htop := hf.top i hi
        exact ⟨DStep.refl hf, by omega, htop, fun _ _ => ⟨rfl, by omega⟩⟩
theorem down_bnd {ws : List Word} {sc : Nat → List Nat} (hsc : ∀ i, i < ws.length → ∀ j ∈ sc i, j < ws.length) (n i : Nat) (hi : i < ws.length) (f : List Int) (e : Bool) (hf : DOK ws.length f) (hn : cntU f < n) :
    DOK ws.length (downM sc n i (f, e)).1.1 ∧ cntU (downM sc n i (f, e)).1.1 ≤ cntU f ∧ 0 ≤ (downM sc n i (f, e)).2 ∧ (downM sc n i (f, e)).2 ≤ (ws.length : Int) := by
  have h := down_spec (nx := fun _ => ws) (sc := sc) (fun i hi j hj => ⟨hsc i hi j hj, el_mem_of ws j (hsc i hi j hj)⟩) n i hi f e hf hn
    (fun k hk _ => ⟨1, Nat.le_refl 1, .succ .zero (el_mem_of ws i hi)⟩)
  obtain ⟨h1, h2, h3, _⟩ := h
  have h4 := cntC_le (downM sc n i (f, e)).1.1
  rw [h1.ok.len] at h4
  exact ⟨h1.ok, h1.cnt, h2, by omega⟩
theorem each_drop {d : Nat → DS → DS × Int} {α : Type} [Inhabited α] (l : List α) (c : α → Nat) (j : Nat) (hj : j < l.length) (st : DS) (m : Int) :
    eachM d ((l.drop j).map c) st m = eachM d ((l.drop (j + 1)).map c) (d (c (el l j)) st).1 (max m ((d (c (el l j)) st).2 + 1)) := by
  rw [drop_cons l j hj, List.map_cons, eachM]
theorem down_long {w : Word} {ws : List Word} {sc : Nat → List Nat} (ha : AllOK nx w ws) (hsc : ScOK nx ws sc) (hw : el ws 0 = w) (hl : 0 < ws.length) (n : Nat) (hn : ws.length < n) :
    LongR nx w (if (downM sc n 0 (List.replicate ws.length (-2), false)).1.2 then 0 else (downM sc n 0 (List.replicate ws.length (-2), false)).2) (!(downM sc n 0 (List.replicate ws.length (-2), false)).1.2) := by
  have hel : ∀ k, k < ws.length → el (List.replicate ws.length (-2 : Int)) k = -2 := by
    intro k hk
    rw [el_eq _ _ (by simpa using hk)]; simp
  have hok : DOK ws.length (List.replicate ws.length (-2)) := by
    refine ⟨by simp, fun k hk => ?_, fun k hk => ?_⟩
    · rw [hel k hk]; omega
    · rw [hel k hk]; omega
  have hc : cntU (List.replicate ws.length (-2)) < n := by
    have : cntU (List.replicate ws.length (-2)) ≤ (List.replicate ws.length (-2 : Int)).length := List.countP_le_length
    rw [List.length_replicate] at this
    omega
  have hs := down_spec hsc.lt n 0 hl (List.replicate ws.length (-2)) false hok hc (fun k hk h => by rw [hel k hk] at h; omega)
  generalize downM sc n 0 (List.replicate ws.length (-2), false) = q at *
  obtain ⟨⟨f, e⟩, v⟩ := q
  dsimp only at hs ⊢
  obtain ⟨s1, s2, s3, s4⟩ := hs
  have hf0 : FineD sc (List.replicate ws.length (-2)) := by
    intro i hi h0
    rw [List.length_replicate] at hi
    rw [hel i hi] at h0; omega
  cases e with
  | true =>
    refine ⟨fun h => (by cases h), fun _ => ⟨by simp, ?_⟩⟩
    rcases s1.cyc rfl with h | ⟨x, hx, m, hm, hr⟩
    · cases h
    · obtain ⟨d, hd⟩ := ha.reach x hx
      exact ever_of_cycle hd hm hr
  | false =>
    refine ⟨fun _ => ?_, fun h => (by cases h)⟩
    simp only [Bool.false_eq_true, if_false]
    obtain ⟨t1, t2⟩ := s4 rfl hf0
    have hfi := (s1.fine rfl).2 hf0
    have hfl := s1.ok.len
    refine ⟨⟨v.toNat, by omega, ?_⟩, fun m x hx => ?_⟩
    · have key : ∀ (m i : Nat), i < ws.length → el f i = (m : Int) → ∃ x, ReachN nx (el ws i) m x := by
        intro m
        induction m with
        | zero => exact fun i _ _ => ⟨_, .zero⟩
        | succ m ih =>
          intro i hi he
          obtain ⟨_, k2⟩ := hfi i (by omega) (by omega)
          rcases k2 with k2 | ⟨j, hj, k2⟩
          · omega
          · obtain ⟨hjl, hjx⟩ := hsc.lt i hi j hj
            obtain ⟨x, hx⟩ := ih j hjl (by omega)
            exact ⟨x, hx.cons hjx⟩
      have := key v.toNat 0 hl (by omega)
      rw [hw] at this
      exact this
    · have key : ∀ (m : Nat) (x : Word), ReachN nx w m x → ∃ q, q < ws.length ∧ el ws q = x ∧ 0 ≤ el f q ∧ (m : Int) + el f q ≤ v := by
        intro m
        induction m with
        | zero =>
          intro x hx
          cases hx
          exact ⟨0, hl, hw, t2, by omega⟩
        | succ m ih =>
          intro x hx
          cases hx with
          | succ h5 h6 =>
            obtain ⟨q, hq, rfl, h7, h8⟩ := ih _ h5
            obtain ⟨k1, _⟩ := hfi q (by omega) h7
            obtain ⟨j, hj, hjx⟩ := hsc.all q hq x h6
            have := k1 j hj
            exact ⟨j, (hsc.lt q hq j hj).1, hjx, this.1, by omega⟩
      obtain ⟨q, _, _, h1, h2⟩ := key m x hx
      omega
end Go.Proofs.YtkhddecnllcaiaaGreat
end

section
/- Contracts: feed's longest walk, found by going deep (the function that calls itself over captured variables). -/
namespace Go.Proofs.YtkhddecnllcaiaaGreat
open Go.Abs Go
set_option maxRecDepth 20000
set_option maxHeartbeats 2000000
attribute [local irreducible] PreK CondK CallK CallG CallX LoopK
attribute [local simp] avsEq avEq akind teq vkind vEq T_101

def posW (ws : List Word) (x : Word) : Nat := match mfind (.str (keyS x)) (entsF 0 ws) 0 with
  | some (i, _) => i
  | none => 0
theorem posW_spec {ws : List Word} {x : Word} (hf : ∀ y ∈ ws, fine y) (hx : x ∈ ws) : posW ws x < ws.length ∧ el ws (posW ws x) = x ∧ mfind (.str (keyS x)) (entsF 0 ws) 0 = some (posW ws x, iv (posW ws x : Int)) := by
  obtain ⟨i, h1, h2, h3⟩ := mfind_some (k := 0) (j := 0) hf hx
  have e : posW ws x = i := by
    unfold posW
    rw [h3]
    simp
  rw [e]
  refine ⟨h1, h2, ?_⟩
  rw [h3]
  simp
def scG (s : List Rule) (g : Gr) (i : Nat) : List Nat := (movesM s (el g.ws i)).map fun m => posW g.ws m.word
/-- What is reached is closed. -/
def Shut (s : List Rule) (g : Gr) : Prop := ∀ i, i < g.ws.length → ∀ m ∈ movesM s (el g.ws i), m.word ∈ g.ws
theorem scG_lt {s : List Rule} {g : Gr} (hok : g.ok) (hc : Shut s g) : ∀ i, i < g.ws.length → ∀ j ∈ scG s g i, j < g.ws.length := by
  intro i hi j hj
  obtain ⟨m, hm, rfl⟩ := List.mem_map.1 hj
  exact (posW_spec (fun x hx => fine_of (hok.fine x hx)) (hc i hi m hm)).1

theorem DOK.ok_set {N : Nat} {f : List Int} (h : DOK N f) {i : Nat} (hi : i < N) (h2 : el f i = -2) : DOK N (f.set i (-1)) ∧ cntU (f.set i (-1)) + 1 = cntU f := by
  have hil : i < f.length := by rw [h.len]; exact hi
  have hU := countP_set (p := fun x => decide (x = -2)) f i (-1) hil
  have hC := countP_set (p := fun x => decide (0 ≤ x)) f i (-1) hil
  simp [h2] at hU hC
  have eC : cntC (f.set i (-1)) = cntC f := hC
  refine ⟨⟨by simpa using h.len, fun k hk => ?_, fun k hk => ?_⟩, hU⟩
  · rw [el_setG _ _ _ _ hil]
    have := h.low k hk
    split <;> omega
  · rw [el_setG _ _ _ _ hil, eC]
    have := h.top k hk
    split <;> omega
def pts : List AV := [.pt 101 0 0 0, .pt 102 0 0 0, .pt 103 0 0 0, .pt 104 0 0 0]
def lgM (s : List Rule) (g : Gr) (f : List Int) (e : Bool) : List (Nat × Option Box) :=
  [(101, some ⟨1, [.sl 105 0 0 g.ws.length], 0, true⟩), (102, some ⟨1, [bv e], 0, true⟩), (103, some ⟨1, [.ipt (graphV s g) 0], 0, true⟩), (104, some ⟨1, [.fn 81 [] pts], 0, true⟩), (105, some ⟨1, f.map iv, 0, false⟩)]
def lgN : Names := [(101, 0, 101), (102, 0, 102), (103, 0, 103), (104, 0, 104), (105, 0, 105)]

theorem deep_b (s : List Rule) (g : Gr) (h : Sys.small s) (hs : sysErr s = 0) (hok : g.ok) (hc : Shut s g) : ∀ (n i : Nat) (f : List Int) (e : Bool), i < g.ws.length → DOK g.ws.length f → cntU f < n →
    CallB Tryz.prog 81 (iv i :: pts) (lgM s g f e) (iv (downM (scG s g) n i (f, e)).2) (lgM s g (downM (scG s g) n i (f, e)).1.1 (downM (scG s g) n i (f, e)).1.2)
  | 0, i, f, e, hi, hf, hn => by omega
  | n + 1, i, f, e, hi, hf, hn => by
    have hlen := hf.len
    have hil : i < f.length := by omega
    have hnum := hok.num
    have hlow := hf.low i hi
    have htop := hf.top i hi
    have hcle := cntC_le f
    by_cases h1 : el f i = -1
    · have e1 : downM (scG s g) (n + 1) i (f, e) = ((f, true), 0) := by rw [downM, if_pos (by exact h1)]
      rw [e1]
      refine CB81 (by simp [pts]) (by simp [lgM]) ?_
      simp [A81, lgM, pts, graphV]
      repeat (refine PreK.intro (by first | omega | (intros; first | omega | (refine ⟨by omega, ?_⟩; simp_all; done) | (simp_all; done) | (simp_all; omega))) fun _ => ?_; (try simp [hlen, hi, hil]))
      refine CondK.intro (fun h3 => ?_) (fun h3 => ?_)
      · repeat (refine PreK.intro (by first | omega | (intros; first | omega | (refine ⟨by omega, ?_⟩; simp_all; done) | (simp_all; done) | (simp_all; omega))) fun _ => ?_; (try simp [hlen, hi, hil]))
      · simp at h3; omega
    · by_cases h2 : el f i = -2
      · generalize hR : eachM (downM (scG s g) n) (scG s g i) (f.set i (-1), e) 0 = RA
        have e1 : downM (scG s g) (n + 1) i (f, e) = ((RA.1.1.set i RA.2, RA.1.2), RA.2) := by rw [downM, if_neg (by exact h1), if_neg (by simpa using h2), hR]
        rw [e1]
        have hmc := moves_c s (el g.ws i) h hs (hok.fine _ (el_mem_of g.ws i hi))
        have hln : lgN = [(101, 0, 101), (102, 0, 102), (103, 0, 103), (104, 0, 104), (105, 0, 105)] := rfl
        refine CB81 (by simp [pts]) (by simp [lgM]) ?_
        simp [A81, lgM, pts, graphV]
        repeat (refine PreK.intro (by first | omega | (intros; first | omega | (refine ⟨by omega, ?_⟩; simp_all; done) | (simp_all; done) | (simp_all; omega))) fun _ => ?_; (try simp [hlen, hi, hil]))
        refine CondK.intro (fun h3 => ?_) (fun h3 => ?_)
        · simp at h3; omega
        · repeat (refine PreK.intro (by first | omega | (intros; first | omega | (refine ⟨by omega, ?_⟩; simp_all; done) | (simp_all; done) | (simp_all; omega))) fun _ => ?_; (try simp [hlen, hi, hil]))
          refine CondK.intro (fun h4 => ?_) (fun h4 => ?_)
          · simp at h4; omega
          · repeat (refine PreK.intro (by first | omega | (intros; first | omega | (refine ⟨by omega, ?_⟩; simp_all; done) | (simp_all; done) | (simp_all; omega))) fun _ => ?_; (try simp [hlen, hi, hil]))
            refine CallK.intro (by simpa using hmc) (by simp) (by simp) ?_
            try simp [hlen, hi, hil]
            repeat (refine PreK.intro (by first | omega | (intros; first | omega | (refine ⟨by omega, ?_⟩; simp_all; done) | (simp_all; done) | (simp_all; omega))) fun _ => ?_; (try simp [hlen, hi, hil]))
            have hfs := hf.ok_set hi h2
            have hml := movesM_len hs (hok.fine _ (el_mem_of g.ws i hi))
            generalize hms : movesM s (el g.ws i) = ms at *
            refine LoopK.by (ι := Nat × List Int × Bool × Int) (fun x => ⟨[(40, iv x.1), (39, iv ms.length), (38, movesV ms), (7, iv x.2.2.2), (0, iv i), (1, .pt 101 0 0 0), (3, .pt 103 0 0 0), (4, .pt 104 0 0 0)], lgM s g x.2.1 x.2.2.1⟩)
              (fun x => ms.length - x.1) (fun x => x.1 ≤ ms.length ∧ DOK g.ws.length x.2.1 ∧ cntU x.2.1 < n ∧ 0 ≤ x.2.2.2 ∧ x.2.2.2 ≤ g.ws.length + 1 ∧ eachM (downM (scG s g) n) ((ms.drop x.1).map fun m => posW g.ws m.word) (x.2.1, x.2.2.1) x.2.2.2 = RA)
              (0, f.set i (-1), e, 0) ⟨Nat.zero_le _, hfs.1, by have := hfs.2; dsimp only; omega, Int.le_refl 0, by dsimp only; omega, by simpa [scG, hms] using hR⟩ (by simp [lgM, pts, graphV]) ?_
            intro ⟨j, f', e', m⟩ Q' ⟨hj, hf', hn', hm0, hm1, hc'⟩ hq he hr
            dsimp only at hj hf' hn' hm0 hm1 hc'
            have hlen' := hf'.len
            simp only [lgM, pts, graphV]
            repeat (refine PreK.intro (by first | omega | (intros; first | omega | (refine ⟨by omega, ?_⟩; simp_all; done) | (simp_all; done) | (simp_all; omega))) fun _ => ?_; (try simp [hlen', hi]))
            refine CondK.intro (fun h5 => ?_) (fun h5 => ?_)
            · simp at h5
              rw [each_drop ms _ j h5] at hc'
              have hm := hc i hi (el ms j) (by rw [hms]; exact el_mem_of ms j h5)
              have hw := hok.fine _ hm
              have hkc := key_c (el ms j).word (by have := (wordErr_zero hw).1; omega) (fine_of hw)
              obtain ⟨q1, _, q3⟩ := posW_spec (fun x hx => fine_of (hok.fine x hx)) hm
              generalize posW g.ws (el ms j).word = q at *
              have hdb := deep_b s g h hs hok hc n q f' e' q1 hf' hn'
              have hbd := down_bnd (scG_lt hok hc) n q q1 f' e' hf' hn'
              generalize downM (scG s g) n q (f', e') = D at *
              obtain ⟨⟨f2, e2⟩, v⟩ := D
              dsimp only at hbd hdb hc'
              simp only [lgM, pts, graphV] at hdb
              repeat (refine PreK.intro (by first | omega | (intros; first | omega | (refine ⟨by omega, ?_⟩; simp_all; done) | (simp_all; done) | (simp_all; omega))) fun _ => ?_; (try simp [hlen', hi, h5, q3, keysOK_ents]))
              refine CallK.intro (by simpa using hkc) (by simp) (by simp) ?_
              try simp [q3, keysOK_ents]
              repeat (refine PreK.intro (by first | omega | (intros; first | omega | (refine ⟨by omega, ?_⟩; simp_all; done) | (simp_all; done) | (simp_all; omega))) fun _ => ?_; (try simp [hlen', hi, h5, q3, keysOK_ents]))
              refine CallK.boxes [(101, 0, 101), (102, 0, 102), (103, 0, 103), (104, 0, 104), (105, 0, 105)] (by simp) (by simpa using hdb) ?_
              obtain ⟨b1, b2, b3, b4⟩ := hbd
              have hmx : max m (v + 1) = if m < v + 1 then v + 1 else m := by split <;> omega
              rw [hmx] at hc'
              have hm2 : 0 ≤ (if m < v + 1 then v + 1 else m) ∧ (if m < v + 1 then v + 1 else m) ≤ (g.ws.length : Int) + 1 := by split <;> omega
              try simp 
              repeat (refine PreK.intro (by first | omega | (intros; first | omega | (refine ⟨by omega, ?_⟩; simp_all; done) | (simp_all; done) | (simp_all; omega))) fun _ => ?_; (try simp ))
              exact hq (j + 1, f2, e2, if m < v + 1 then v + 1 else m) _ ⟨by dsimp only; omega, b1, by dsimp only; omega, hm2.1, hm2.2, hc'⟩ (by dsimp only; omega) (by simp [lgM, pts, graphV])
            · simp at h5
              rw [List.drop_eq_nil_of_le (by omega)] at hc'
              simp only [List.map_nil, eachM] at hc'
              subst hc'
              have hil' : i < f'.length := by omega
              try simp 
              apply he
              repeat (refine PreK.intro (by first | omega | (intros; first | omega | (refine ⟨by omega, ?_⟩; simp_all; done) | (simp_all; done) | (simp_all; omega))) fun _ => ?_; (try simp [hlen', hi, hil']))
      · have e1 : downM (scG s g) (n + 1) i (f, e) = ((f, e), el f i) := by rw [downM, if_neg (by exact h1), if_pos (by exact h2)]
        rw [e1]
        refine CB81 (by simp [pts]) (by simp [lgM]) ?_
        simp [A81, lgM, pts, graphV]
        repeat (refine PreK.intro (by first | omega | (intros; first | omega | (refine ⟨by omega, ?_⟩; simp_all; done) | (simp_all; done) | (simp_all; omega))) fun _ => ?_; (try simp [hlen, hi, hil]))
        refine CondK.intro (fun h3 => ?_) (fun h3 => ?_)
        · simp at h3; omega
        · repeat (refine PreK.intro (by first | omega | (intros; first | omega | (refine ⟨by omega, ?_⟩; simp_all; done) | (simp_all; done) | (simp_all; omega))) fun _ => ?_; (try simp [hlen, hi, hil]))
          refine CondK.intro (fun h4 => ?_) (fun h4 => ?_)
          · repeat (refine PreK.intro (by first | omega | (intros; first | omega | (refine ⟨by omega, ?_⟩; simp_all; done) | (simp_all; done) | (simp_all; omega))) fun _ => ?_; (try simp [hlen, hi, hil]))
          · simp at h4; omega
end Go.Proofs.YtkhddecnllcaiaaGreat
end

section
/- Functions of the cut as the value layer reads them. (written by gen.py) -/
set_option maxRecDepth 20000
namespace Go.Proofs.YtkhddecnllcaiaaGreat
open Go.Abs Go

def A14 : ACode :=
  (.seq (.reg [] [⟨some 4, (.assign (.const (.bool false))), 4, none⟩,
      ⟨some 5, (.assign (.const (.int .i64 0))), 28, none⟩])
    (.seq (.reg [] [⟨some 11, (.move (.tmp 0)), 22, none⟩,
      ⟨some 12, (.move (.tmp 1)), 23, none⟩,
      ⟨some 13, (.call ⟨(.value (.func 35)), #[(.tmp 11), (.tmp 12)], #[22, 23]⟩), 49, none⟩,
      ⟨some 10, (.move (.tmp 13)), 49, none⟩,
      ⟨some 14, (.extract (.tmp 10) 0), 48, none⟩,
      ⟨some 15, (.extract (.tmp 10) 1), 28, none⟩,
      ⟨some 6, (.assign (.tmp 14)), 48, none⟩,
      ⟨some 7, (.assign (.tmp 15)), 28, none⟩])
    (.seq (.seq (.reg [] [⟨some 16, (.move (.tmp 7)), 28, none⟩,
      ⟨some 17, (.binOp .neq 28 (.tmp 16) (.const (.int .i64 0)) 28), 4, none⟩])
    (.cond (.tmp 17)
    (.seq (.reg [] [⟨some 18, (.move (.tmp 7)), 28, none⟩,
      ⟨some 4, (.assign (.const (.bool false))), 4, none⟩,
      ⟨some 5, (.assign (.tmp 18)), 28, none⟩])
    .ret)
    .skip))
    (.seq (.reg [] [⟨some 20, (.move (.tmp 6)), 48, none⟩,
      ⟨some 21, (.call ⟨(.value (.func 41)), #[(.tmp 20)], #[48]⟩), 63, none⟩,
      ⟨some 19, (.move (.tmp 21)), 63, none⟩,
      ⟨some 22, (.extract (.tmp 19) 0), 3, none⟩,
      ⟨some 23, (.extract (.tmp 19) 1), 4, none⟩,
      ⟨some 8, (.assign (.tmp 22)), 3, none⟩,
      ⟨some 9, (.assign (.tmp 23)), 4, none⟩])
    (.seq (.reg [] [⟨some 24, (.move (.tmp 9)), 4, none⟩,
      ⟨some 25, (.unOp .not 4 (.tmp 24)), 4, none⟩,
      ⟨some 4, (.assign (.tmp 25)), 4, none⟩,
      ⟨some 5, (.assign (.const (.int .i64 0))), 28, none⟩])
    .ret)))))
theorem C14 {args : List AV} {r : AV} (hn : args.length ≤ 26) (h : vc Tryz.prog T [] A14 (Fin T [(.tmp 4), (.tmp 5)] r) ⟨envOf 0 args, []⟩) : CallP Tryz.prog 14 args r :=
  callP_of tok mixed Tryz.func14 (by kernel_rfl) (by kernel_rfl) (by kernel_rfl : Tryz.f14.ntmps = 26) (by kernel_rfl : Tryz.f14.body.bind (strip 26 (fun _ => [])) = some A14) hn h

end Go.Proofs.YtkhddecnllcaiaaGreat
end

section
/- Contracts: a product of which one is one; slices.Repeat of one number. -/
namespace Go.Proofs.YtkhddecnllcaiaaGreat
open Go.Abs Go
set_option maxRecDepth 20000
set_option maxHeartbeats 2000000
attribute [local irreducible] PreK CondK CallK CallG CallX LoopK
attribute [local simp] avsEq avEq akind teq vkind vEq T_114

def uv (n : Int) : AV := .raw (.int .u64 n)
theorem Mul64_c (n : Nat) (h : n ≤ 1000) : CallP Tryz.prog 152 [uv 1, uv n] (.tup [uv 0, uv n]) := by
  refine C152 (by simp) ?_
  have h1 : n &&& 4294967295 = n := by
    have := Nat.and_two_pow_sub_one_eq_mod n 32
    rw [show (2 : Nat) ^ 32 - 1 = 4294967295 by decide] at this
    rw [this]
    exact Nat.mod_eq_of_lt (by omega)
  have h2 : Int.fdiv (n : Int) 4294967296 = 0 := by
    rw [Int.fdiv_eq_ediv_of_nonneg _ (by decide)]
    omega
  simp [A152, uv]
  repeat (refine PreK.intro (by first | omega | (intros; first | omega | (refine ⟨by omega, ?_⟩; simp_all; done) | (simp_all; done) | (simp_all; omega))) fun _ => ?_; (try simp [h1, h2]))
theorem Mul_c (n : Nat) (h : n ≤ 1000) : CallP Tryz.prog 106 [uv 1, uv n] (.tup [uv 0, uv n]) := by
  refine C106 (by simp) ?_
  have := Mul64_c n h
  simp only [uv] at this ⊢
  simp [A106]
  refine CondK.intro (fun h1 => ?_) (fun h1 => ?_)
  · cases h1
  · try simp 
    repeat' (first
      | (refine CallX.pure (this) (by simp) (by simp) ?_; try simp )
      | (refine CallK.intro (this) (by simp) (by simp) ?_; try simp )
      | (refine CallG.intro (fun _ => this) (by simp) (by simp) ?_; try simp )
      | ((with_reducible refine PreK.intro ?_ ?_); (next => (first | omega | (intros; first | omega | (refine ⟨by omega, ?_⟩; repeat (first | assumption | constructor)) | assumption))); intro _; try simp )
      | fail)
/-- A row of one number, made by taking what is there twice, again and again. -/
theorem repeat_o (k : Bool) (v : Int) (n : Nat) (h0 : 0 < n) (h : n ≤ 1000) : CallO Tryz.prog 80 [.seq 1 [iv v] k, iv (n : Int)] 1 (List.replicate n (iv v)) := by
  refine CO80 (by simp) ?_
  have hm := Mul_c n h
  simp only [uv] at hm
  simp [A80]
  repeat (refine PreK.intro (by first | omega | (intros; first | omega | (refine ⟨by omega, ?_⟩; simp_all; done) | (simp_all; done) | (simp_all; omega))) fun _ => ?_; (try simp ))
  refine CondK.intro (fun h1 => ?_) (fun h1 => ?_)
  · simp at h1; omega
  · repeat (refine PreK.intro (by first | omega | (intros; first | omega | (refine ⟨by omega, ?_⟩; simp_all; done) | (simp_all; done) | (simp_all; omega))) fun _ => ?_; (try simp ))
    have w1 : IntKind.u64.wrap 1 = 1 := by decide
    have w2 : IntKind.u64.wrap (n : Int) = n := wrap_in (by simp only [inR]; omega)
    have w3 : IntKind.i64.wrap (n : Int) = n := wrap_in (by simp only [inR]; omega)
    repeat (refine PreK.intro (by first | omega | (intros; first | omega | (refine ⟨by omega, ?_⟩; simp_all; done) | (simp_all; done) | (simp_all; omega))) fun _ => ?_; (try simp [w1, w2, w3]))
    rw [w1, w2]
    try simp [w1, w2, w3]
    repeat' (first
      | (refine CallX.pure (hm) (by simp) (by simp) ?_; try simp [w1, w2, w3])
      | (refine CallK.intro (hm) (by simp) (by simp) ?_; try simp [w1, w2, w3])
      | (refine CallG.intro (fun _ => hm) (by simp) (by simp) ?_; try simp [w1, w2, w3])
      | ((with_reducible refine PreK.intro ?_ ?_); (next => (first | omega | (intros; first | omega | (refine ⟨by omega, ?_⟩; repeat (first | assumption | constructor)) | assumption))); intro _; try simp [w1, w2, w3])
      | fail)
    refine CondK.intro (fun h2 => ?_) (fun h2 => ?_)
    · simp at h2; omega
    · repeat (refine PreK.intro (by first | omega | (intros; first | omega | (refine ⟨by omega, ?_⟩; simp_all; done) | (simp_all; done) | (simp_all; omega))) fun _ => ?_; (try simp [w1, w2, w3]))
      have t1 : List.take n [AV.raw (Value.int IntKind.i64 v)] = [AV.raw (Value.int IntKind.i64 v)] := List.take_of_length_le h0
      have t2 : min n 1 = 1 := by omega
      have t3 : min 1 n = 1 := by omega
      refine LoopK.by (ι := Nat) (fun k => ⟨[(8, iv k), (7, .sl 30 1 0 n)], [(30, some ⟨1, List.replicate k (iv v) ++ List.replicate (n - k) (iv 0), 1, false⟩)]⟩) (fun k => n - k) (fun k => 1 ≤ k ∧ k ≤ n) 1 ⟨Nat.le_refl 1, h0⟩ (by simp [t1, t2, t3]) ?_
      intro k Q' ⟨k1, k2⟩ hq he hr
      repeat (refine PreK.intro (by first | omega | (intros; first | omega | (refine ⟨by omega, ?_⟩; simp_all; done) | (simp_all; done) | (simp_all; omega))) fun _ => ?_; (try simp ))
      refine CondK.intro (fun h3 => ?_) (fun h3 => ?_)
      · simp at h3
        repeat (refine PreK.intro (by first | omega | (intros; first | omega | (refine ⟨by omega, ?_⟩; simp_all; done) | (simp_all; done) | (simp_all; omega))) fun _ => ?_; (try simp [h3]))
        have e1 : min k (n - k) = min (n - k) k := Nat.min_comm _ _
        have e2 : List.drop (k + min (n - k) k) (List.replicate k (AV.raw (Value.int IntKind.i64 v)) ++ List.replicate (n - k) (AV.raw (Value.int IntKind.i64 0))) = List.replicate (n - (k + min (n - k) k)) (AV.raw (Value.int IntKind.i64 0)) := by
          rw [List.drop_append, List.drop_replicate, List.drop_replicate, List.length_replicate, show k - (k + min (n - k) k) = 0 by omega, show n - k - (k + min (n - k) k - k) = n - (k + min (n - k) k) by omega]
          simp
        exact hq (k + min (n - k) k) _ ⟨by omega, by omega⟩ (by omega) (by simp [e1, e2])
      · simp at h3
        have e : k = n := by omega
        subst e
        try simp 
        apply he
        repeat (refine PreK.intro (by first | omega | (intros; first | omega | (refine ⟨by omega, ?_⟩; simp_all; done) | (simp_all; done) | (simp_all; omega))) fun _ => ?_; (try simp ))
end Go.Proofs.YtkhddecnllcaiaaGreat
end

section
/- Plain: paths, and the shortest one that a search gives. -/
namespace Go.Proofs.YtkhddecnllcaiaaGreat
open Go.Abs Go

/-- The steps back from the i-th word to the first one. -/
def backM (g : Gr) : Nat → Nat → List Step
  | 0, _ => []
  | n + 1, i => if el g.frm i < 0 then [] else el g.stp i :: backM g n (el g.frm i).toNat
end Go.Proofs.YtkhddecnllcaiaaGreat
end

section
/- Plain: a system without a rule. -/
namespace Go.Proofs.YtkhddecnllcaiaaGreat
open Go.Abs Go

theorem closed_mem {s : List Rule} {w : Word} {g : Gr} (h : reachG s w = some g) : (∀ n x, ReachN (nxP s) w n x → x ∈ g.ws) ∧ ∀ x ∈ g.ws, ∃ n, ReachN (nxP s) w n x := by
  have h1 := reachG_F s w
  rw [h] at h1
  cases hc : closeM (nxP s) w with
  | none => rw [hc] at h1; exact h1.elim
  | some ws =>
    rw [hc] at h1
    have hcl := closeM_some hc
    refine ⟨fun n x hx => ?_, fun x hx => ?_⟩
    · obtain ⟨z, hz, e, _⟩ := hcl.all n x hx
      rw [h1.words]
      exact List.mem_map.2 ⟨z, hz, e⟩
    · rw [h1.words] at hx
      obtain ⟨y, hy, rfl⟩ := List.mem_map.1 hx
      exact ⟨_, hcl.reach y hy⟩
end Go.Proofs.YtkhddecnllcaiaaGreat
end

section
/- Plain: weights that hold are at least the smallest ones, and bound all walks; a closed graph. -/
namespace Go.Proofs.YtkhddecnllcaiaaGreat
open Go.Abs Go

/-! ### what is reached begins with the word -/
theorem addG_first {i : Nat} {x : Word} : ∀ {l : List Move} {g g' : Gr}, 0 < g.ws.length → el g.ws 0 = x → addG i g l = some g' → 0 < g'.ws.length ∧ el g'.ws 0 = x
  | [], g, g', h0, h, he => by simp only [addG, Option.some.injEq] at he; subst he; exact ⟨h0, h⟩
  | m :: l, g, g', h0, h, he => by
    rw [addG] at he
    split at he
    · exact addG_first h0 h he
    · split at he
      · cases he
      · exact addG_first (by simp) (by dsimp only; rw [el_app_left _ _ h0]; exact h) he
theorem closeG_first {s : List Rule} {x : Word} : ∀ (n i : Nat) {g g' : Gr}, 0 < g.ws.length → el g.ws 0 = x → closeG s n i g = some g' → el g'.ws 0 = x
  | 0, i, g, g', h0, h, he => by simp only [closeG, Option.some.injEq] at he; subst he; exact h
  | n + 1, i, g, g', h0, h, he => by
    rw [closeG] at he
    split at he
    · cases ha : addG i g (movesM s (el g.ws i)) with
      | none => rw [ha] at he; cases he
      | some g1 =>
        rw [ha] at he
        obtain ⟨h1, h2⟩ := addG_first h0 h ha
        exact closeG_first n (i + 1) h1 h2 he
    · simp only [Option.some.injEq] at he; subst he; exact h
theorem reachG_first {s : List Rule} {w : Word} {g : Gr} (h : reachG s w = some g) : el g.ws 0 = w := closeG_first 301 0 (by simp) rfl h
end Go.Proofs.YtkhddecnllcaiaaGreat
end

section
/- Contracts: the longest walk; feed's Longest and Forever. -/
namespace Go.Proofs.YtkhddecnllcaiaaGreat
open Go.Abs Go
set_option maxRecDepth 20000
set_option maxHeartbeats 2000000
attribute [local irreducible] PreK CondK CallK CallG CallX LoopK
attribute [local simp] avsEq avEq akind teq vkind vEq T_101

theorem shut_of {s : List Rule} {w : Word} {g : Gr} (h : reachG s w = some g) : Shut s g := by
  obtain ⟨h1, h2⟩ := closed_mem h
  intro i hi m hm
  obtain ⟨n, hn⟩ := h2 (el g.ws i) (el_mem_of g.ws i hi)
  exact h1 (n + 1) _ (.succ hn (List.mem_map.2 ⟨m, hm, rfl⟩))
def deepG (s : List Rule) (g : Gr) : DS × Int := downM (scG s g) (g.ws.length + 1) 0 (List.replicate g.ws.length (-2), false)
def LongestG (s : List Rule) (g : Gr) : Int × Bool := (if (deepG s g).1.2 then 0 else (deepG s g).2, !(deepG s g).1.2)
theorem longestG_spec {s : List Rule} {w : Word} {g : Gr} (h : reachG s w = some g) (hok : g.ok) : LongR (nxP s) w (LongestG s g).1 (LongestG s g).2 := by
  obtain ⟨h1, h2⟩ := closed_mem h
  have hf : ∀ y ∈ g.ws, fine y := fun x hx => fine_of (hok.fine x hx)
  have hs := shut_of h
  have hsc : ScOK (nxP s) g.ws (scG s g) := by
    refine ⟨fun i hi j hj => ?_, fun i hi x hx => ?_⟩
    · obtain ⟨m, hm, rfl⟩ := List.mem_map.1 hj
      obtain ⟨a, b, _⟩ := posW_spec hf (hs i hi m hm)
      rw [b]
      exact ⟨a, List.mem_map.2 ⟨m, hm, rfl⟩⟩
    · obtain ⟨m, hm, rfl⟩ := List.mem_map.1 hx
      exact ⟨_, List.mem_map.2 ⟨m, hm, rfl⟩, (posW_spec hf (hs i hi m hm)).2.1⟩
  exact down_long ⟨h1 0 w .zero, h2, h1⟩ hsc (reachG_first h) hok.some _ (Nat.lt_succ_self _)
def LongestE (s : List Rule) (w : Word) : Int × Bool × Int := if swErr s w ≠ 0 then (0, false, swErr s w) else match reachG s w with
  | none => (0, false, 3)
  | some g => ((LongestG s g).1, (LongestG s g).2, 0)
theorem longestE_spec {s : List Rule} {w : Word} (h : (LongestE s w).2.2 = 0) : LongR (nxP s) w (LongestE s w).1 (LongestE s w).2.1 := by
  unfold LongestE at h ⊢
  split at h
  · rename_i h1; exact absurd h h1
  · rename_i h1
    rw [if_neg h1]
    simp only [ne_eq, Decidable.not_not] at h1
    cases hg : reachG s w with
    | none => rw [hg] at h; cases h
    | some g => exact longestG_spec hg (reachG_ok h1 hg)
theorem dok_start (g : Gr) : DOK g.ws.length (List.replicate g.ws.length (-2)) := by
  have hel : ∀ k, k < g.ws.length → el (List.replicate g.ws.length (-2 : Int)) k = -2 := by
    intro k hk
    rw [el_eq _ _ (by simpa using hk)]; simp
  refine ⟨by simp, fun k hk => ?_, fun k hk => ?_⟩
  · rw [hel k hk]; omega
  · rw [hel k hk]; omega
theorem longest_c (s : List Rule) (g : Gr) (h : Sys.small s) (hs : sysErr s = 0) (hok : g.ok) (hc : Shut s g) :
    CallP Tryz.prog 41 [.ipt (graphV s g) 0] (.tup [iv (LongestG s g).1, bv (LongestG s g).2]) := by
  refine C41 (by simp) ?_
  have hnum := hok.num
  have h0 := hok.some
  have hrep := repeat_o false (-2) g.ws.length hok.some (by omega)
  have hcu : cntU (List.replicate g.ws.length (-2 : Int)) < g.ws.length + 1 := by
    have : cntU (List.replicate g.ws.length (-2 : Int)) ≤ (List.replicate g.ws.length (-2 : Int)).length := List.countP_le_length
    rw [List.length_replicate] at this
    omega
  have hdb := deep_b s g h hs hok hc (g.ws.length + 1) 0 (List.replicate g.ws.length (-2)) false hok.some (dok_start g) hcu
  unfold LongestG deepG
  generalize downM (scG s g) (g.ws.length + 1) 0 (List.replicate g.ws.length (-2), false) = D at hdb ⊢
  obtain ⟨⟨f, e⟩, v⟩ := D
  dsimp only at hdb ⊢
  simp only [lgM, pts, graphV] at hdb
  simp [A41, graphV]
  repeat (refine PreK.intro (by first | omega | (intros; first | omega | (refine ⟨by omega, ?_⟩; simp_all; done) | (simp_all; done) | (simp_all; omega))) fun _ => ?_; (try simp ))
  refine CallX.own (by simpa using hrep) (by simp) (by simp) ?_
  try simp 
  repeat (refine PreK.intro (by first | omega | (intros; first | omega | (refine ⟨by omega, ?_⟩; simp_all; done) | (simp_all; done) | (simp_all; omega))) fun _ => ?_; (try simp ))
  refine CallX.boxes [(4, 1, 101), (5, 1, 102), (1, 1, 103), (6, 1, 104), (14, 1, 105)] (by simp) (by simpa using hdb) ?_
  try simp 
  repeat (refine PreK.intro (by first | omega | (intros; first | omega | (refine ⟨by omega, ?_⟩; simp_all; done) | (simp_all; done) | (simp_all; omega))) fun _ => ?_; (try simp ))
  refine CondK.intro (fun h1 => ?_) (fun h1 => ?_)
  · subst h1
    repeat (refine PreK.intro (by first | omega | (intros; first | omega | (refine ⟨by omega, ?_⟩; simp_all; done) | (simp_all; done) | (simp_all; omega))) fun _ => ?_; (try simp ))
  · subst h1
    repeat (refine PreK.intro (by first | omega | (intros; first | omega | (refine ⟨by omega, ?_⟩; simp_all; done) | (simp_all; done) | (simp_all; omega))) fun _ => ?_; (try simp ))
end Go.Proofs.YtkhddecnllcaiaaGreat
end

section
/- Contracts: feed's Ends. -/
namespace Go.Proofs.YtkhddecnllcaiaaGreat
open Go.Abs Go
set_option maxRecDepth 20000
set_option maxHeartbeats 2000000
attribute [local irreducible] PreK CondK CallK CallG CallX LoopK
attribute [local simp] avsEq avEq akind teq vkind vEq

def isEndM (s : List Rule) (u : Word) : Bool := decide ((movesM s u).length = 0)
theorem ends_c (s : List Rule) (g : Gr) (h : Sys.small s) (hs : sysErr s = 0) (hok : g.ok) : CallP Tryz.prog 36 [.ipt (graphV s g) 0] (wordsV (uniq (g.ws.filter (isEndM s)))) := by
  refine C36 (by simp) ?_
  have hnum := hok.num
  generalize hF : g.ws.filter (isEndM s) = F
  simp [A36, graphV]
  refine LoopK.by (ι := Nat × Nat × List Word) (fun x => ⟨[(0, .ipt (graphV s g) 0), (11, iv x.1), (10, iv g.ws.length), (9, wordsV g.ws), (3, .sl 3 x.2.1 0 x.2.2.length)], [(3, some ⟨1, x.2.2.map ints, x.2.1, false⟩)]⟩) (fun x => g.ws.length - x.1)
    (fun x => x.1 ≤ g.ws.length ∧ x.2.2.length ≤ x.1 ∧ (∀ y ∈ x.2.2, y.length ≤ 8) ∧ x.2.2 ++ (g.ws.drop x.1).filter (isEndM s) = F) (0, 1, []) (by simpa using hF) (by simp [graphV]) ?_
  intro ⟨i, v, k⟩ Q' ⟨hi, hk, hk8, hc⟩ hq he hr
  dsimp only at hi hk hk8 hc
  simp only [graphV]
  try simp 
  refine CondK.intro (fun h1 => ?_) (fun h1 => ?_)
  · simp at h1
    have hu := hok.fine _ (el_mem_of g.ws i h1)
    have hwl := (wordErr_zero hu).1
    rw [drop_cons g.ws i h1, List.filter_cons] at hc
    try simp [h1]
    repeat' (first
      | (refine CallX.pure (moves_c s (el g.ws i) h hs hu) (by simp) (by simp) ?_; try simp [h1])
      | (refine CallK.intro (moves_c s (el g.ws i) h hs hu) (by simp) (by simp) ?_; try simp [h1])
      | (refine CallG.intro (fun _ => moves_c s (el g.ws i) h hs hu) (by simp) (by simp) ?_; try simp [h1])
      | ((with_reducible refine PreK.intro ?_ ?_); (next => (first | omega | (intros; first | omega | (refine ⟨by omega, ?_⟩; repeat (first | assumption | constructor)) | assumption))); intro _; try simp [h1])
      | fail)
    refine CondK.intro (fun h2 => ?_) (fun h2 => ?_)
    · have e : isEndM s (el g.ws i) = true := by (try simp at h2); unfold isEndM; simp [h2]
      rw [if_pos e] at hc
      try simp [h1]
      repeat' (first
        | (refine CallX.pure ((clone_o (el g.ws i) (by omega)).toP) (by simp) (by simp) ?_; try simp [h1])
        | (refine CallK.intro ((clone_o (el g.ws i) (by omega)).toP) (by simp) (by simp) ?_; try simp [h1])
        | (refine CallG.intro (fun _ => (clone_o (el g.ws i) (by omega)).toP) (by simp) (by simp) ?_; try simp [h1])
        | ((with_reducible refine PreK.intro ?_ ?_); (next => (first | omega | (intros; first | omega | (refine ⟨by omega, ?_⟩; repeat (first | assumption | constructor)) | assumption))); intro _; try simp [h1])
        | fail)
      refine hq (i + 1, v + 1, k ++ [el g.ws i]) _ ⟨by dsimp only; omega, by simp; omega, fun y hy => ?_, by simpa using hc⟩ (by dsimp only; omega) (by simp [graphV])
      rcases List.mem_append.1 hy with hy | hy
      · exact hk8 y hy
      · simp only [List.mem_singleton] at hy
        subst hy; exact hwl
    · have e : isEndM s (el g.ws i) = false := by (try simp at h2); unfold isEndM; simp [h2]
      rw [if_neg (by simp [e])] at hc
      try simp 
      repeat' (first
        | ((with_reducible refine PreK.intro ?_ ?_); (next => (first | omega | (intros; first | omega | (refine ⟨by omega, ?_⟩; repeat (first | assumption | constructor)) | assumption))); intro _; try simp )
        | fail)
      exact hq (i + 1, v, k) _ ⟨by dsimp only; omega, by dsimp only; omega, hk8, hc⟩ (by dsimp only; omega) (by simp [graphV])
  · simp at h1
    rw [List.drop_eq_nil_of_le (by omega)] at hc
    simp only [List.filter_nil, List.append_nil] at hc
    subst hc
    try simp 
    apply he
    have hsl := sorted_L k (by omega) (fun x hx => by have := hk8 x hx; omega)
    have hsl2 : CallL Tryz.prog 40 [] 1 (k.map ints) [] (.part (uniq k).length) ((uniq k).map ints ++ List.replicate (k.length - (uniq k).length) (.seq 1 [] true)) := hsl
    generalize uniq k = U at hsl2
    try simp 
    refine CallX.lend [] (id := 3) (ver := v) (n := k.length) (b := ⟨1, k.map ints, v, false⟩) [] (.part U.length) _ (by simp) (by simp) (by simp) (by simp) (by simp) (by simp) (by simp) (by simpa using hsl2) ?_
    try simp 
def EndsE (s : List Rule) (w : Word) : List Word × Int := if swErr s w ≠ 0 then ([], swErr s w) else match reachG s w with
  | none => ([], 3)
  | some g => (uniq (g.ws.filter (isEndM s)), 0)
theorem Ends_c (s : List Rule) (w : List Int) (h : Sys.small s) (hw : w.length ≤ 1000) : CallP Tryz.prog 10 [rulesV s, ints w] (.tup [wordsV (EndsE s w).1, iv (EndsE s w).2]) := by
  refine C10 (by simp) ?_
  have hrc := reached_c s w h hw
  by_cases h1 : swErr s w = 0
  · have e1 : reachedV s w = reachV s (reachG s w) := by simp [reachedV, h1]
    rw [e1] at hrc
    cases hg : reachG s w with
    | none =>
      rw [hg] at hrc
      have e2 : EndsE s w = ([], 3) := by simp [EndsE, h1, hg]
      rw [e2]
      simp only [reachV] at hrc
      simp [A10]
      try simp 
      repeat' (first
        | (refine CallX.pure (hrc) (by simp) (by simp) ?_; try simp )
        | (refine CallK.intro (hrc) (by simp) (by simp) ?_; try simp )
        | (refine CallG.intro (fun _ => hrc) (by simp) (by simp) ?_; try simp )
        | ((with_reducible refine PreK.intro ?_ ?_); (next => (first | omega | (intros; first | omega | (refine ⟨by omega, ?_⟩; repeat (first | assumption | constructor)) | assumption))); intro _; try simp )
        | fail)
      refine CondK.intro (fun h2 => ?_) (fun h2 => ?_)
      · try simp 
        repeat' (first
          | ((with_reducible refine PreK.intro ?_ ?_); (next => (first | omega | (intros; first | omega | (refine ⟨by omega, ?_⟩; repeat (first | assumption | constructor)) | assumption))); intro _; try simp )
          | fail)
      · simp at h2
    | some g =>
      rw [hg] at hrc
      have hec := ends_c s g h (swErr_zero h1).1 (reachG_ok h1 hg)
      have e2 : EndsE s w = (uniq (g.ws.filter (isEndM s)), 0) := by simp [EndsE, h1, hg]
      rw [e2]
      simp only [reachV, graphV] at hrc
      simp only [graphV] at hec
      generalize uniq (g.ws.filter (isEndM s)) = U at hec
      simp [A10]
      try simp 
      repeat' (first
        | (refine CallX.pure (hrc) (by simp) (by simp) ?_; try simp )
        | (refine CallK.intro (hrc) (by simp) (by simp) ?_; try simp )
        | (refine CallG.intro (fun _ => hrc) (by simp) (by simp) ?_; try simp )
        | ((with_reducible refine PreK.intro ?_ ?_); (next => (first | omega | (intros; first | omega | (refine ⟨by omega, ?_⟩; repeat (first | assumption | constructor)) | assumption))); intro _; try simp )
        | fail)
      refine CondK.intro (fun h2 => ?_) (fun h2 => ?_)
      · simp at h2
      · try simp 
        repeat' (first
          | (refine CallX.pure (hec) (by simp) (by simp) ?_; try simp )
          | (refine CallK.intro (hec) (by simp) (by simp) ?_; try simp )
          | (refine CallG.intro (fun _ => hec) (by simp) (by simp) ?_; try simp )
          | ((with_reducible refine PreK.intro ?_ ?_); (next => (first | omega | (intros; first | omega | (refine ⟨by omega, ?_⟩; repeat (first | assumption | constructor)) | assumption))); intro _; try simp )
          | fail)
  · have e1 : reachedV s w = .tup [.raw (.pointer none), iv (swErr s w)] := by simp [reachedV, h1]
    rw [e1] at hrc
    have e2 : EndsE s w = ([], swErr s w) := by simp [EndsE, h1]
    rw [e2]
    simp [A10]
    try simp 
    repeat' (first
      | (refine CallX.pure (hrc) (by simp) (by simp) ?_; try simp )
      | (refine CallK.intro (hrc) (by simp) (by simp) ?_; try simp )
      | (refine CallG.intro (fun _ => hrc) (by simp) (by simp) ?_; try simp )
      | ((with_reducible refine PreK.intro ?_ ?_); (next => (first | omega | (intros; first | omega | (refine ⟨by omega, ?_⟩; repeat (first | assumption | constructor)) | assumption))); intro _; try simp )
      | fail)
    refine CondK.intro (fun h2 => ?_) (fun h2 => ?_)
    · try simp 
      repeat' (first
        | ((with_reducible refine PreK.intro ?_ ?_); (next => (first | omega | (intros; first | omega | (refine ⟨by omega, ?_⟩; repeat (first | assumption | constructor)) | assumption))); intro _; try simp )
        | fail)
    · simp at h2
      exact absurd h2 h1
end Go.Proofs.YtkhddecnllcaiaaGreat
end

section
/- Contracts: equal lists; what is known of feed. -/
namespace Go.Proofs.YtkhddecnllcaiaaGreat
open Go.Abs Go
set_option maxRecDepth 20000
set_option maxHeartbeats 2000000
attribute [local irreducible] PreK CondK CallK CallG CallX LoopK
attribute [local simp] avsEq avEq akind teq vkind vEq

theorem same1_c (a b : List Int) (ha : a.length ≤ big) : CallP Tryz.prog 32 [ints a, ints b] (bv (decide (a = b))) := by
  refine C32 (by simp) ?_
  generalize hR : decide (a = b) = R
  simp [A32]
  refine CondK.intro (fun h => ?_) (fun h => ?_)
  · simp at h
    have : a ≠ b := fun e => h (by rw [e])
    simp [this] at hR
    simp [hR]
  · simp at h
    simp
    refine LoopK.by (fun i : Nat => ⟨[(5, iv i), (4, bv false), (0, ints a), (1, ints b)], []⟩) (fun i => a.length - i) (fun i => i ≤ a.length ∧ decide (a.drop i = b.drop i) = R) 0 (by simpa using hR) (by simp) ?_
    intro i Q' ⟨hi, hc⟩ hq he hr
    simp
    refine CondK.intro (fun h2 => ?_) (fun h2 => ?_)
    · simp at h2
      rw [drop_cons a i h2, drop_cons b i (by omega)] at hc
      simp [h2, show i < b.length by omega]
      refine CondK.intro (fun h3 => ?_) (fun h3 => ?_)
      · simp at h3
        simp [h3] at hc
        simp
        apply hr
        simp [hc]
      · simp at h3
        simp [h3] at hc
        simp
        refine PreK.intro (by simp only [big] at ha; omega) fun _ => ?_
        simp
        exact hq (i + 1) _ ⟨by omega, by simpa using hc⟩ (by omega) (by simp)
    · simp at h2
      rw [List.drop_eq_nil_of_le (by omega), List.drop_eq_nil_of_le (by omega)] at hc
      simp at hc
      simp
      apply he
      simp [hc]
theorem sameLists_c (a b : List Word) (ha : a.length ≤ big) (hw : ∀ x ∈ a, x.length ≤ big) : CallP Tryz.prog 12 [wordsV a, wordsV b] (bv (decide (a = b))) := by
  refine C12 (by simp) ?_
  generalize hR : decide (a = b) = R
  simp only [big] at ha
  simp [A12]
  refine CondK.intro (fun h => ?_) (fun h => ?_)
  · simp at h
    have : a ≠ b := fun e => h (by rw [e])
    simp [this] at hR
    simp [hR]
  · simp at h
    try simp 
    refine LoopK.by (fun i : Nat => ⟨[(5, iv i), (0, wordsV a), (1, wordsV b)], []⟩) (fun i => a.length - i) (fun i => i ≤ a.length ∧ decide (a.drop i = b.drop i) = R) 0 (by simpa using hR) (by simp) ?_
    intro i Q' ⟨hi, hc⟩ hq he hr
    try simp 
    refine CondK.intro (fun h2 => ?_) (fun h2 => ?_)
    · simp at h2
      have h2b : i < b.length := by omega
      have hs := same1_c (el a i) (el b i) (hw _ (el_mem_of a i h2))
      rw [drop_cons a i h2, drop_cons b i h2b] at hc
      repeat (refine PreK.intro (by first | omega | (intros; first | omega | (refine ⟨by omega, ?_⟩; simp_all; done) | (simp_all; done) | (simp_all; omega))) fun _ => ?_; (try simp [h2, h2b]))
      refine CallK.intro (by simpa using hs) (by simp) (by simp) ?_
      try simp 
      repeat (refine PreK.intro (by first | omega | (intros; first | omega | (refine ⟨by omega, ?_⟩; simp_all; done) | (simp_all; done) | (simp_all; omega))) fun _ => ?_; (try simp ))
      refine CondK.intro (fun h3 => ?_) (fun h3 => ?_)
      · simp at h3
        simp [h3] at hc
        try simp 
        apply hr
        simp [hc]
      · simp at h3
        simp [h3] at hc
        repeat (refine PreK.intro (by first | omega | (intros; first | omega | (refine ⟨by omega, ?_⟩; simp_all; done) | (simp_all; done) | (simp_all; omega))) fun _ => ?_; (try simp ))
        exact hq (i + 1) _ ⟨by omega, by simpa using hc⟩ (by omega) (by simp)
    · simp at h2
      rw [List.drop_eq_nil_of_le (by omega), List.drop_eq_nil_of_le (by omega)] at hc
      simp at hc
      try simp 
      apply he
      simp [hc]
theorem known_c : CallP Tryz.prog 9 [] (bv true) := by
  refine C9 (by simp) ?_
  have s1 : Sys.small [⟨0, [1, 1], [], []⟩, ⟨1, [], [], []⟩] := ⟨by simp, by intro r hr; simp at hr; rcases hr with rfl | rfl <;> exact ⟨by simp, by simp, by simp⟩⟩
  have s2 : Sys.small [⟨0, [1], [], []⟩, ⟨0, [2], [], []⟩] := ⟨by simp, by intro r hr; simp at hr; rcases hr with rfl | rfl <;> exact ⟨by simp, by simp, by simp⟩⟩
  have hW := Weights_c [⟨0, [1, 1], [], []⟩, ⟨1, [], [], []⟩] s1
  have hE := Ends_c [⟨0, [1], [], []⟩, ⟨0, [2], [], []⟩] [0] s2 (by simp)
  have e1 : WeightsR [⟨0, [1, 1], [], []⟩, ⟨1, [], [], []⟩] = ([3, 1, 0, 0, 0, 0], true, 0) := by decide
  have e2 : EndsE [⟨0, [1], [], []⟩, ⟨0, [2], [], []⟩] [0] = ([[1], [2]], 0) := by decide
  rw [e1] at hW
  rw [e2] at hE
  simp [A9]
  simp at hW hE
  refine CallX.pure (CallP.weak (by simpa [weakL, weak] using hW)) (by simp) (by simp) ?_
  try simp 
  refine CallX.pure (CallP.weak (by simpa [weakL, weak] using hE)) (by simp) (by simp) ?_
  have h1 := same1_c [3, 1, 0, 0, 0, 0] [3, 1, 0, 0, 0, 0] (by simp [big])
  have h2 := sameLists_c [[1], [2]] [[1], [2]] (by simp [big]) (by simp [big])
  simp at h2
  try simp 
  repeat' (first
    | (refine CallX.pure (h1) (by simp) (by simp) ?_; try simp )
    | (refine CallK.intro (h1) (by simp) (by simp) ?_; try simp )
    | (refine CallG.intro (fun _ => h1) (by simp) (by simp) ?_; try simp )
    | ((with_reducible refine PreK.intro ?_ ?_); (next => (first | omega | (intros; first | omega | (refine ⟨by omega, ?_⟩; repeat (first | assumption | constructor)) | assumption))); intro _; try simp )
    | fail)
  refine CallG.intro (fun _ => CallP.weak (by simpa [weakL, weak] using h2)) (by simp) (by simp) ?_
  try simp 
end Go.Proofs.YtkhddecnllcaiaaGreat
end

section
/- Plain: where two derivations differ first; equal ones end alike. -/
namespace Go.Proofs.YtkhddecnllcaiaaGreat
open Go.Abs Go

end Go.Proofs.YtkhddecnllcaiaaGreat
end

section
/- Contracts: where derivations differ, and the statement OrderDiffers. -/
namespace Go.Proofs.YtkhddecnllcaiaaGreat
open Go.Abs Go
attribute [local simp] avsEq avEq akind teq vkind vEq

end Go.Proofs.YtkhddecnllcaiaaGreat
end

section
/- Contracts: all words; the words that have a form. -/
namespace Go.Proofs.YtkhddecnllcaiaaGreat
open Go.Abs Go
attribute [local simp] avsEq avEq akind teq vkind vEq

theorem take_map_one {α β : Type} (f : α → β) (l : List α) (x : β) : (l.map f ++ [x]).take (l.length + 1) = l.map f ++ [x] := by rw [List.take_of_length_le (by simp)]
end Go.Proofs.YtkhddecnllcaiaaGreat
end

section
/- Contracts: lists of words in order; Bases on both sides, and the statement OrderBases. -/
namespace Go.Proofs.YtkhddecnllcaiaaGreat
open Go.Abs Go
set_option maxRecDepth 20000
set_option maxHeartbeats 2000000
attribute [local irreducible] PreK CondK CallK CallG CallX LoopK
attribute [local simp] avsEq avEq akind teq vkind vEq

end Go.Proofs.YtkhddecnllcaiaaGreat
end

section
/- Contracts: the statement FeedSteps. -/
namespace Go.Proofs.YtkhddecnllcaiaaGreat
open Go.Abs Go
attribute [local simp] avsEq avEq akind teq vkind vEq

end Go.Proofs.YtkhddecnllcaiaaGreat
end

section
/- Contracts: the statement FeedSteps as a contract. -/
namespace Go.Proofs.YtkhddecnllcaiaaGreat
open Go.Abs Go
set_option maxRecDepth 20000
set_option maxHeartbeats 2000000
attribute [local irreducible] PreK CondK CallK CallG CallX LoopK
attribute [local simp] avsEq avEq akind teq vkind vEq

theorem large2_c (l : List Int) : CallP Tryz.prog 71 [ints l] (bv (decide (100 < l.length))) := by
  refine C71 (by simp) ?_
  simp [A71]
  omega
theorem large3_c (l : List Int) : CallP Tryz.prog 8 [ints l] (bv (decide (100 < l.length))) := by
  refine C8 (by simp) ?_
  simp [A8]
  omega
def longT (r : Rule) : Bool := decide (100 < r.to.length) || (decide (100 < r.left.length) || decide (100 < r.right.length))
theorem long2_c (r : Rule) : CallP Tryz.prog 33 [ruleV r] (bv (longT r)) := by
  refine C33 (by simp) ?_
  simp [A33]
  try simp 
  repeat' (first
    | (refine CallX.pure (large2_c r.to) (by simp) (by simp) ?_; try simp )
    | (refine CallK.intro (large2_c r.to) (by simp) (by simp) ?_; try simp )
    | (refine CallG.intro (fun _ => large2_c r.to) (by simp) (by simp) ?_; try simp )
    | (refine CallX.pure (large2_c r.left) (by simp) (by simp) ?_; try simp )
    | (refine CallK.intro (large2_c r.left) (by simp) (by simp) ?_; try simp )
    | (refine CallG.intro (fun _ => large2_c r.left) (by simp) (by simp) ?_; try simp )
    | (refine CallX.pure (large2_c r.right) (by simp) (by simp) ?_; try simp )
    | (refine CallK.intro (large2_c r.right) (by simp) (by simp) ?_; try simp )
    | (refine CallG.intro (fun _ => large2_c r.right) (by simp) (by simp) ?_; try simp )
    | ((with_reducible refine PreK.intro ?_ ?_); (next => (first | omega | (intros; first | omega | (refine ⟨by omega, ?_⟩; repeat (first | assumption | constructor)) | assumption))); intro _; try simp )
    | fail)
  simp [longT, Bool.or_assoc]
def longS (s : List Rule) : Bool := decide (50 < s.length) || s.any longT
theorem long3_c (s : List Rule) (h : s.length ≤ big) : CallP Tryz.prog 7 [rulesV s] (bv (longS s)) := by
  refine C7 (by simp) ?_
  generalize hR : longS s = R
  unfold longS at hR
  simp only [big] at h
  simp [A7]
  refine CondK.intro (fun h1 => ?_) (fun h1 => ?_)
  · simp at h1
    simp [show 50 < s.length by omega] at hR
    simp [← hR]
  · simp at h1
    simp only [show ¬ 50 < s.length by omega, decide_false, Bool.false_or] at hR
    try simp 
    refine LoopK.by (fun i : Nat => ⟨[(3, iv i), (0, rulesV s)], []⟩) (fun i => s.length - i) (fun i => i ≤ s.length ∧ (s.drop i).any longT = R) 0 (by simpa using hR) (by simp) ?_
    intro i Q' ⟨hi, hc⟩ hq he hr
    try simp 
    refine CondK.intro (fun h2 => ?_) (fun h2 => ?_)
    · simp at h2
      rw [drop_cons s i h2, List.any_cons] at hc
      try simp [h2]
      repeat' (first
        | (refine CallX.pure (long2_c (el s i)) (by simp) (by simp) ?_; try simp [h2])
        | (refine CallK.intro (long2_c (el s i)) (by simp) (by simp) ?_; try simp [h2])
        | (refine CallG.intro (fun _ => long2_c (el s i)) (by simp) (by simp) ?_; try simp [h2])
        | ((with_reducible refine PreK.intro ?_ ?_); (next => (first | omega | (intros; first | omega | (refine ⟨by omega, ?_⟩; repeat (first | assumption | constructor)) | assumption))); intro _; try simp [h2])
        | fail)
      refine CondK.intro (fun h3 => ?_) (fun h3 => ?_)
      · rw [h3] at hc
        try simp 
        apply hr
        simp [← hc]
      · rw [h3] at hc
        try simp 
        repeat' (first
          | ((with_reducible refine PreK.intro ?_ ?_); (next => (first | omega | (intros; first | omega | (refine ⟨by omega, ?_⟩; repeat (first | assumption | constructor)) | assumption))); intro _; try simp )
          | fail)
        exact hq (i + 1) _ ⟨by omega, by simpa using hc⟩ (by omega) (by simp)
    · simp at h2
      rw [List.drop_eq_nil_of_le (by omega)] at hc
      try simp 
      apply he
      simp [← hc]
theorem longS_small {s : List Rule} (h : longS s = false) : Sys.small s := by
  unfold longS at h
  simp only [Bool.or_eq_false_iff, decide_eq_false_iff_not, List.any_eq_false] at h
  refine ⟨by omega, fun r hr => ?_⟩
  have := h.2 r hr
  unfold longT at this
  simp only [Bool.or_eq_true, decide_eq_true_eq, not_or] at this
  exact ⟨by omega, by omega, by omega⟩
end Go.Proofs.YtkhddecnllcaiaaGreat
end

section
/- Contracts: words put in their places; the reference's next words; parts of lists; the statement FeedNexts. -/
namespace Go.Proofs.YtkhddecnllcaiaaGreat
open Go.Abs Go
set_option maxRecDepth 20000
set_option maxHeartbeats 2000000
attribute [local irreducible] PreK CondK CallK CallG CallX LoopK
attribute [local simp] avsEq avEq akind teq vkind vEq

theorem before1_c (a b : List Int) (ha : a.length ≤ 1000) : CallP Tryz.prog 105 [ints a, ints b] (bv (bef a b)) := by
  refine C105 (by simp) ?_
  generalize hR : bef a b = R
  simp [A105]
  refine LoopK.by (fun i : Nat => ⟨[(5, iv i), (0, ints a), (1, ints b)], []⟩) (fun i => a.length - i) (fun i => i ≤ a.length ∧ i ≤ b.length ∧ bef (a.drop i) (b.drop i) = R) 0 (by simpa using hR) (by simp) ?_
  intro i Q' ⟨hi, hj, hc⟩ hq he hr
  by_cases h1 : i < a.length
  · by_cases h2 : i < b.length
    · rw [drop_cons a i h1, drop_cons b i h2, bef] at hc
      try simp [h1, h2]
      repeat' (first
        | ((with_reducible refine PreK.intro ?_ ?_); (next => (first | omega | (intros; first | omega | (refine ⟨by omega, ?_⟩; repeat (first | assumption | constructor)) | assumption))); intro _; try simp [h1, h2])
        | fail)
      refine CondK.intro (fun h3 => ?_) (fun h3 => ?_)
      · try simp [h1, h2]
        repeat' (first
          | ((with_reducible refine PreK.intro ?_ ?_); (next => (first | omega | (intros; first | omega | (refine ⟨by omega, ?_⟩; repeat (first | assumption | constructor)) | assumption))); intro _; try simp [h1, h2])
          | fail)
        refine CondK.intro (fun h4 => ?_) (fun h4 => ?_)
        · simp at h4
          rw [if_neg h4] at hc
          try simp [h1, h2]
          repeat' (first
            | ((with_reducible refine PreK.intro ?_ ?_); (next => (first | omega | (intros; first | omega | (refine ⟨by omega, ?_⟩; repeat (first | assumption | constructor)) | assumption))); intro _; try simp [h1, h2])
            | fail)
          apply hr
          simp [← hc]
        · simp at h4
          rw [if_pos h4] at hc
          try simp 
          repeat' (first
            | ((with_reducible refine PreK.intro ?_ ?_); (next => (first | omega | (intros; first | omega | (refine ⟨by omega, ?_⟩; repeat (first | assumption | constructor)) | assumption))); intro _; try simp )
            | fail)
          exact hq (i + 1) _ ⟨by omega, by omega, hc⟩ (by omega) (by simp)
      · simp at h3
    · have hb : b.drop i = [] := List.drop_eq_nil_of_le (by omega)
      rw [hb] at hc
      have hf : bef (a.drop i) [] = false := by cases a.drop i <;> rfl
      rw [hf] at hc
      try simp [h1, h2]
      repeat' (first
        | ((with_reducible refine PreK.intro ?_ ?_); (next => (first | omega | (intros; first | omega | (refine ⟨by omega, ?_⟩; repeat (first | assumption | constructor)) | assumption))); intro _; try simp [h1, h2])
        | fail)
      refine CondK.intro (fun h3 => ?_) (fun h3 => ?_)
      · simp at h3
      · try simp 
        repeat' (first
          | ((with_reducible refine PreK.intro ?_ ?_); (next => (first | omega | (intros; first | omega | (refine ⟨by omega, ?_⟩; repeat (first | assumption | constructor)) | assumption))); intro _; try simp )
          | fail)
        apply he
        simp [← hc]; omega
  · have h0 : i = a.length := by omega
    subst h0
    rw [List.drop_eq_nil_of_le (Nat.le_refl _)] at hc
    try simp 
    repeat' (first
      | ((with_reducible refine PreK.intro ?_ ?_); (next => (first | omega | (intros; first | omega | (refine ⟨by omega, ?_⟩; repeat (first | assumption | constructor)) | assumption))); intro _; try simp )
      | fail)
    refine CondK.intro (fun h3 => ?_) (fun h3 => ?_)
    · simp at h3
    · try simp 
      repeat' (first
        | ((with_reducible refine PreK.intro ?_ ?_); (next => (first | omega | (intros; first | omega | (refine ⟨by omega, ?_⟩; repeat (first | assumption | constructor)) | assumption))); intro _; try simp )
        | fail)
      apply he
      by_cases h2 : a.length < b.length
      · rw [drop_cons b _ h2, bef] at hc
        simp [← hc, h2]
      · rw [List.drop_eq_nil_of_le (by omega), bef] at hc
        simp [← hc, h2]
theorem insert_c (l : List Word) (w : Word) (hl : l.length ≤ 1000) (hs : ∀ x ∈ l, x.length ≤ 1000) (hw : w.length ≤ 1000) : CallP Tryz.prog 79 [wordsV l, ints w] (wordsV (insM w l)) := by
  refine C79 (by simp) ?_
  generalize hR : insM w l = R
  simp [A79]
  refine LoopK.by (fun i : Nat => ⟨[(5, iv i), (0, wordsV l), (1, ints w)], []⟩) (fun i => l.length - i) (fun i => i ≤ l.length ∧ l.take i ++ insM w (l.drop i) = R) 0 (by simpa using hR) (by simp) ?_
  intro i Q' ⟨hi, hc⟩ hq he hr
  by_cases h1 : i < l.length
  · have hm := el_mem_of l i h1
    rw [drop_cons l i h1, insM] at hc
    try simp [h1]
    repeat' (first
      | ((with_reducible refine PreK.intro ?_ ?_); (next => (first | omega | (intros; first | omega | (refine ⟨by omega, ?_⟩; repeat (first | assumption | constructor)) | assumption))); intro _; try simp [h1])
      | fail)
    refine CallG.intro (r := bv (bef (el l i) w)) (fun _ => by simpa using before1_c (el l i) w (hs _ hm)) (by simp) (by simp) ?_
    try simp 
    cases hb : bef (el l i) w
    · rw [hb] at hc
      simp only [Bool.false_eq_true, if_false] at hc
      refine CondK.intro (fun h2 => ?_) (fun h2 => ?_)
      · simp at h2
      · try simp 
        repeat' (first
          | ((with_reducible refine PreK.intro ?_ ?_); (next => (first | omega | (intros; first | omega | (refine ⟨by omega, ?_⟩; repeat (first | assumption | constructor)) | assumption))); intro _; try simp )
          | fail)
        apply he
        try simp [h1]
        repeat' (first
          | ((with_reducible refine PreK.intro ?_ ?_); (next => (first | omega | (intros; first | omega | (refine ⟨by omega, ?_⟩; repeat (first | assumption | constructor)) | assumption))); intro _; try simp [h1])
          | fail)
        refine CallG.intro (r := bv (decide (el l i = w))) (fun _ => by simpa using same1_c (el l i) w (big_of (hs _ hm))) (by simp) (by simp) ?_
        try simp 
        refine CondK.intro (fun h3 => ?_) (fun h3 => ?_)
        · simp at h3
          rw [if_pos h3, ← drop_cons l i h1, List.take_append_drop] at hc
          try simp 
          repeat' (first
            | ((with_reducible refine PreK.intro ?_ ?_); (next => (first | omega | (intros; first | omega | (refine ⟨by omega, ?_⟩; repeat (first | assumption | constructor)) | assumption))); intro _; try simp )
            | fail)
          simp [← hc]
        · simp at h3
          rw [if_neg h3, ← drop_cons l i h1] at hc
          have hm2 : min i l.length = i := by omega
          have t1 : List.take (i + 1) (List.take i (l.map ints) ++ [ints w]) = List.take i (l.map ints) ++ [ints w] := List.take_of_length_le (by simp; omega)
          have t2 : List.take (i + 1 + (l.length - i)) (List.take i (l.map ints) ++ ints w :: List.drop i (l.map ints)) = List.take i (l.map ints) ++ ints w :: List.drop i (l.map ints) := List.take_of_length_le (by simp; omega)
          have t0 : List.take i (List.take i (l.map ints)) = List.take i (l.map ints) := by rw [List.take_take, Nat.min_self]
          simp only [ints] at t0 t1 t2
          try simp [h1]
          repeat' (first
            | ((with_reducible refine PreK.intro ?_ ?_); (next => (first | omega | (intros; first | omega | (refine ⟨by omega, ?_⟩; repeat (first | assumption | constructor)) | assumption))); intro _; try simp [h1])
            | fail)
          simp [← hc, hm2, t0, t1, t2]
    · rw [hb] at hc
      simp only [if_true] at hc
      refine CondK.intro (fun h2 => ?_) (fun h2 => ?_)
      · try simp 
        repeat' (first
          | ((with_reducible refine PreK.intro ?_ ?_); (next => (first | omega | (intros; first | omega | (refine ⟨by omega, ?_⟩; repeat (first | assumption | constructor)) | assumption))); intro _; try simp )
          | fail)
        refine hq (i + 1) _ ⟨by omega, ?_⟩ (by omega) (by simp)
        rw [take_succ l i h1, List.append_assoc]
        exact hc
      · simp at h2
  · have h0 : i = l.length := by omega
    subst h0
    rw [List.drop_eq_nil_of_le (Nat.le_refl _)] at hc
    simp only [List.take_length, insM] at hc
    try simp 
    repeat' (first
      | ((with_reducible refine PreK.intro ?_ ?_); (next => (first | omega | (intros; first | omega | (refine ⟨by omega, ?_⟩; repeat (first | assumption | constructor)) | assumption))); intro _; try simp )
      | fail)
    refine CallG.intro (r := bv true) (fun hh => by cases hh) (by simp) (by simp) ?_
    try simp 
    refine CondK.intro (fun h3 => ?_) (fun h3 => ?_)
    · simp at h3
    · try simp 
      repeat' (first
        | ((with_reducible refine PreK.intro ?_ ?_); (next => (first | omega | (intros; first | omega | (refine ⟨by omega, ?_⟩; repeat (first | assumption | constructor)) | assumption))); intro _; try simp )
        | fail)
      apply he
      try simp 
      repeat' (first
        | ((with_reducible refine PreK.intro ?_ ?_); (next => (first | omega | (intros; first | omega | (refine ⟨by omega, ?_⟩; repeat (first | assumption | constructor)) | assumption))); intro _; try simp )
        | fail)
      refine CallG.intro (r := bv true) (fun hh => by cases hh) (by simp) (by simp) ?_
      try simp 
      refine CondK.intro (fun h4 => ?_) (fun h4 => ?_)
      · simp at h4
      · try simp 
        repeat' (first
          | ((with_reducible refine PreK.intro ?_ ?_); (next => (first | omega | (intros; first | omega | (refine ⟨by omega, ?_⟩; repeat (first | assumption | constructor)) | assumption))); intro _; try simp )
          | fail)
        simp [← hc, take_map_one]
theorem insM_words (w : Word) (n : Nat) (hw : w.length ≤ n) {l : List Word} (hs : ∀ x ∈ l, x.length ≤ n) : ∀ x ∈ insM w l, x.length ≤ n := by
  intro x hx
  rcases mem_insM.1 hx with rfl | hx
  · exact hw
  · exact hs x hx
def nxtR (s : List Rule) (w : Word) : List Word := insA [] ((movesM s w).map (·.word))
theorem rnext_c (s : List Rule) (w : List Int) (h : Sys.small s) (hs : sysErr s = 0) (hw : wordErr w = 0) : CallP Tryz.prog 103 [rulesV s, ints w] (wordsV (nxtR s w)) := by
  refine C103 (by simp) ?_
  have hst := rsteps_c s w h (sysErr_zero hs).1 (wordErr_zero hw).1
  have hmr := fun m hm => @moves_right s w hs hw m hm
  have hml := movesM_len hs hw
  unfold nxtR
  generalize hS : (movesM s w).map (·.step) = S at hst
  have hws : ∀ x ∈ (movesM s w).map (·.word), x.length ≤ 8 := by
    intro x hx
    obtain ⟨m, hm, rfl⟩ := List.mem_map.1 hx
    exact (wordErr_zero (hmr m hm)).1
  have hwl : ((movesM s w).map (·.word)).length ≤ 54 := by simpa using hml
  generalize (movesM s w).map (·.word) = ws at hst hws hwl
  generalize hR : insA [] ws = R
  simp [A103]
  try simp 
  repeat' (first
    | (refine CallX.pure (hst) (by simp) (by simp) ?_; try simp )
    | (refine CallK.intro (hst) (by simp) (by simp) ?_; try simp )
    | (refine CallG.intro (fun _ => hst) (by simp) (by simp) ?_; try simp )
    | ((with_reducible refine PreK.intro ?_ ?_); (next => (first | omega | (intros; first | omega | (refine ⟨by omega, ?_⟩; repeat (first | assumption | constructor)) | assumption))); intro _; try simp )
    | fail)
  refine LoopK.frz 7 (b := ⟨1, [], 1, false⟩) (by simp) (by simp) ?_
  refine LoopK.by (ι := Nat × List Word) (fun x => ⟨[(8, iv x.1), (6, wordsV ws), (7, wordsV x.2)], []⟩) (fun x => ws.length - x.1) (fun x => x.1 ≤ ws.length ∧ x.2.length ≤ x.1 ∧ (∀ y ∈ x.2, y.length ≤ 8) ∧ insA x.2 (ws.drop x.1) = R) (0, []) (by simpa using hR) (by simp) ?_
  intro ⟨i, acc⟩ Q' ⟨hi, ha, hy, hc⟩ hq he hr
  dsimp only at hi ha hy hc
  try simp 
  refine CondK.intro (fun h1 => ?_) (fun h1 => ?_)
  · simp at h1
    have h8 := hws _ (el_mem_of ws i h1)
    rw [drop_cons ws i h1, insA] at hc
    try simp [h1]
    repeat' (first
      | (refine CallX.pure (insert_c acc (el ws i) (by omega) (fun x hx => Nat.le_trans (hy x hx) (by omega)) (by omega)) (by simp) (by simp) ?_; try simp [h1])
      | (refine CallK.intro (insert_c acc (el ws i) (by omega) (fun x hx => Nat.le_trans (hy x hx) (by omega)) (by omega)) (by simp) (by simp) ?_; try simp [h1])
      | (refine CallG.intro (fun _ => insert_c acc (el ws i) (by omega) (fun x hx => Nat.le_trans (hy x hx) (by omega)) (by omega)) (by simp) (by simp) ?_; try simp [h1])
      | ((with_reducible refine PreK.intro ?_ ?_); (next => (first | omega | (intros; first | omega | (refine ⟨by omega, ?_⟩; repeat (first | assumption | constructor)) | assumption))); intro _; try simp [h1])
      | fail)
    refine hq (i + 1, insM (el ws i) acc) _ ⟨by dsimp only; omega, ?_, insM_words _ 8 h8 hy, hc⟩ (by dsimp only; omega) (by simp)
    have := insM_len (el ws i) acc
    dsimp only; omega
  · simp at h1
    rw [List.drop_eq_nil_of_le (by omega), insA] at hc
    try simp 
    apply he
    try simp 
    repeat' (first
      | ((with_reducible refine PreK.intro ?_ ?_); (next => (first | omega | (intros; first | omega | (refine ⟨by omega, ?_⟩; repeat (first | assumption | constructor)) | assumption))); intro _; try simp )
      | fail)
    simp [← hc]
end Go.Proofs.YtkhddecnllcaiaaGreat
end

section
/- PURSE -/
/- Contracts: the reference's search. (written by gen/mkrb.py) -/
namespace Go.Proofs.YtkhddecnllcaiaaGreat
open Go.Abs Go
set_option maxRecDepth 20000
set_option maxHeartbeats 8000000
attribute [local irreducible] PreK CondK CallK CallG CallX LoopK
attribute [local simp] avsEq avEq akind teq vkind vEq

theorem CX78 {args : List AV} {r : AV} (hn : args.length ≤ 82) (h : vc Tryz.prog T [13, 14] A78 (Fin T [(.cell 4 53), (.tmp 5)] r) ⟨envOf 0 args, []⟩) : CallP Tryz.prog 78 args r :=
  callP_of tok mixed Tryz.func78 (by kernel_rfl) (by kernel_rfl) (by kernel_rfl : Tryz.f78.ntmps = 82) (by kernel_rfl : Tryz.f78.body.bind (strip 82 (fun _ => [])) = some A78) hn h
theorem find_c (l : List Word) (w : Word) (hl : l.length ≤ 1000) (hs : ∀ x ∈ l, x.length ≤ 1000) : CallP Tryz.prog 104 [wordsV l, ints w] (iv (findI l w)) := by
  refine C104 (by simp) ?_
  generalize hR : findI l w = R
  unfold findI at hR
  simp [A104]
  refine LoopK.by (fun i : Nat => ⟨[(5, iv i), (0, wordsV l), (1, ints w)], []⟩) (fun i => l.length - i) (fun i => i ≤ l.length ∧ idxG (fun x => decide (x = w)) i (l.drop i) = R) 0 (by simpa using hR) (by simp) ?_
  intro i Q' ⟨hi, hc⟩ hq he hr
  try simp 
  refine CondK.intro (fun h1 => ?_) (fun h1 => ?_)
  · simp at h1
    rw [drop_cons l i h1, idxG] at hc
    try simp [h1]
    repeat' (first
      | (refine CallX.pure (same1_c (el l i) w (big_of (hs _ (el_mem_of l i h1)))) (by simp) (by simp) ?_; try simp [h1])
      | (refine CallK.intro (same1_c (el l i) w (big_of (hs _ (el_mem_of l i h1)))) (by simp) (by simp) ?_; try simp [h1])
      | (refine CallG.intro (fun _ => same1_c (el l i) w (big_of (hs _ (el_mem_of l i h1)))) (by simp) (by simp) ?_; try simp [h1])
      | ((with_reducible refine PreK.intro ?_ ?_); (next => (first | omega | (intros; first | omega | (refine ⟨by omega, ?_⟩; repeat (first | assumption | constructor)) | assumption))); intro _; try simp [h1])
      | fail)
    refine CondK.intro (fun h2 => ?_) (fun h2 => ?_)
    · simp at h2
      rw [if_pos (by simpa using h2)] at hc
      try simp 
      apply hr
      simp [← hc]
    · simp at h2
      rw [if_neg (by simpa using h2)] at hc
      try simp 
      repeat' (first
        | ((with_reducible refine PreK.intro ?_ ?_); (next => (first | omega | (intros; first | omega | (refine ⟨by omega, ?_⟩; repeat (first | assumption | constructor)) | assumption))); intro _; try simp )
        | fail)
      exact hq (i + 1) _ ⟨by omega, hc⟩ (by omega) (by simp)
  · simp at h1
    rw [List.drop_eq_nil_of_le (by omega), idxG] at hc
    try simp 
    apply he
    simp [← hc]
def rzeroV : AV := .agg [.seq 1 [] false, .seq 1 [] false, .seq 1 [] false]
def rgraphV (g : RG) : AV := .agg [wordsV g.ws, .seq 1 (g.nx.map ints) false, ints g.far]
def rreachV : Option RG → AV
  | none => .tup [rzeroV, bv false]
  | some g => .tup [rgraphV g, bv true]
structure RG.ok (g : RG) : Prop where
  fine : ∀ x ∈ g.ws, wordErr x = 0
  num : g.ws.length ≤ 300
  far : g.far.length = g.ws.length
  low : ∀ j, j < g.far.length → 0 ≤ el g.far j ∧ el g.far j ≤ j
theorem RG.ok.push {g : RG} (h : g.ok) {w : Word} {i : Nat} (hw : wordErr w = 0) (hn : g.ws.length < 300) (hi : i < g.ws.length) : RG.ok ⟨g.ws ++ [w], g.nx, g.far ++ [el g.far i + 1]⟩ := by
  have hf := h.far
  refine ⟨fun x hx => ?_, by simp; omega, by simp [hf], fun j hj => ?_⟩
  · rcases List.mem_append.1 hx with hx | hx
    · exact h.fine x hx
    · simp only [List.mem_singleton] at hx
      subst hx; exact hw
  · simp only [List.length_append, List.length_cons, List.length_nil] at hj
    dsimp only
    by_cases hj2 : j < g.far.length
    · rw [el_app_left _ _ hj2]; exact h.low j hj2
    · have : j = g.far.length := by omega
      subst this
      rw [el_app_mid]
      have := h.low i (by omega)
      omega
def rboxT (g : RG) : List (Nat × Option Box) := [(4, some ⟨3, [.agg [.seq 1 [] true, .seq 1 [] true, .seq 1 [] true]], 1, true⟩), (6, some ⟨3, [.agg [.sl 13 g.ws.length 0 g.ws.length, .seq 1 [] true, .sl 14 g.ws.length 0 g.far.length]], 1, true⟩), (13, some ⟨1, g.ws.map ints, g.ws.length, false⟩), (14, some ⟨1, g.far.map iv, g.ws.length, false⟩)]
def rboxF (g : RG) : List (Nat × Option Box) := [(4, some ⟨3, [.agg [.seq 1 [] true, .seq 1 [] true, .seq 1 [] true]], 1, true⟩), (6, some ⟨3, [.agg [.sl 13 g.ws.length 0 g.ws.length, .sl 79 g.nx.length 0 g.nx.length, .sl 14 g.ws.length 0 g.far.length]], 1, true⟩), (13, some ⟨1, g.ws.map ints, g.ws.length, false⟩), (14, some ⟨1, g.far.map iv, g.ws.length, false⟩), (79, some ⟨1, g.nx.map ints, g.nx.length, false⟩)]
attribute [local simp] rboxT rboxF
theorem reached_x (s : List Rule) (w : List Int) (h : Sys.small s) (hs : sysErr s = 0) (hw : wordErr w = 0) : CallP Tryz.prog 78 [rulesV s, ints w] (rreachV (rreachG s w)) := by
  refine CX78 (by simp) ?_
  generalize hR : rreachG s w = R
  unfold rreachG at hR
  have hok0 : RG.ok ⟨[w], [], [0]⟩ := ⟨by simpa using hw, by simp, rfl, fun j hj => by simp at hj; subst hj; simp [el]⟩
  generalize hg0 : (⟨[w], [], [0]⟩ : RG) = g0 at hR hok0
  have hg1 : g0.nx = [] := by rw [← hg0]
  have hg2 : g0.ws = [w] := by rw [← hg0]
  have hg3 : g0.far = [0] := by rw [← hg0]
  simp [A78]
  refine LoopK.by (ι := Bool × Nat × RG) (fun x => match x with
      | (true, i, g) => ⟨[(7, iv i), (6, .pt 6 1 0 0), (4, .pt 4 1 0 0), (0, rulesV s)], rboxT g⟩
      | (false, i, g) => ⟨[(7, iv i), (6, .pt 6 1 0 0), (4, .pt 4 1 0 0), (0, rulesV s)], rboxF g⟩)
    (fun x => 400 - x.2.1) (fun x => (x.1 = true → x.2.2.nx = []) ∧ x.2.2.ok ∧ x.2.1 ≤ x.2.2.ws.length ∧ x.2.2.nx.length = x.2.1 ∧ rcloseG s (301 - x.2.1) x.2.1 x.2.2 = R) (true, 0, g0) ⟨fun _ => hg1, hok0, by simp, by rw [hg1]; rfl, hR⟩ (by simp [hg2, hg3]) ?_
  intro ⟨kd, i, g⟩ Q' ⟨hkd, hok, hi, hnl, hc⟩ hq he hr
  dsimp only at hkd hok hi hnl hc
  have hnum := hok.num
  have hfl := hok.far
  obtain ⟨n, hn⟩ : ∃ n, 301 - i = n + 1 := ⟨300 - i, by omega⟩
  rw [hn, rcloseG] at hc
  by_cases hi2 : i < g.ws.length
  · rw [if_pos hi2] at hc
    have hui := hok.fine _ (el_mem_of g.ws i hi2)
    have hmc := rnext_c s (el g.ws i) h hs hui
    have hms : ∀ x ∈ nxtR s (el g.ws i), wordErr x = 0 := by
      intro x hx
      unfold nxtR at hx
      rw [(insA_spec _ [] List.Pairwise.nil).2] at hx
      simp only [List.not_mem_nil, false_or] at hx
      obtain ⟨m, hm, rfl⟩ := List.mem_map.1 hx
      exact moves_right hs hui hm
    have hml : (nxtR s (el g.ws i)).length ≤ 54 := by
      have h1 := insA_len ((movesM s (el g.ws i)).map (·.word)) []
      have h2 := movesM_len hs hui
      simp at h1
      unfold nxtR; omega
    have hnr : nxR s (el g.ws i) = nxtR s (el g.ws i) := rfl
    rw [hnr] at hc
    generalize nxtR s (el g.ws i) = ms at hmc hms hml hc
    generalize hRA : raddG (el g.far i + 1) g.ws g.far [] ms = RA at hc
    cases kd
    · try simp 
      refine CondK.intro (fun h1 => ?_) (fun h1 => ?_)
      · try simp 
        try simp [hi2]
        repeat' (first
          | (refine CallX.pure (hmc) (by simp) (by simp) ?_; try simp [hi2])
          | (refine CallK.intro (hmc) (by simp) (by simp) ?_; try simp [hi2])
          | (refine CallG.intro (fun _ => hmc) (by simp) (by simp) ?_; try simp [hi2])
          | ((with_reducible refine PreK.intro ?_ ?_); (next => (first | omega | (intros; first | omega | (refine ⟨by omega, ?_⟩; repeat (first | assumption | constructor)) | assumption))); intro _; try simp [hi2])
          | fail)
        refine LoopK.by (ι := Nat × RG × List Int) (fun x => ⟨[(10, iv x.1), (9, wordsV ms), (8, .sl 8 (x.2.2.length + 1) 0 x.2.2.length), (7, iv i), (6, .pt 6 1 0 0), (4, .pt 4 1 0 0), (0, rulesV s)], (8, some ⟨1, x.2.2.map iv, x.2.2.length + 1, false⟩) :: rboxF x.2.1⟩)
          (fun x => ms.length - x.1) (fun x => x.1 ≤ ms.length ∧ x.2.2.length = x.1 ∧ x.2.1.ok ∧ x.2.1.nx = g.nx ∧ i < x.2.1.ws.length ∧ el x.2.1.far i = el g.far i ∧ raddG (el g.far i + 1) x.2.1.ws x.2.1.far x.2.2 (ms.drop x.1) = RA) (0, g, []) ⟨by simp, rfl, hok, rfl, hi2, rfl, hRA⟩ (by simp) ?_
        intro ⟨k, g', l⟩ Q'' ⟨hk, hkl, hok', hnx, hi3, hfi, ha⟩ hq' he' hr'
        dsimp only at hk hkl hok' hnx hi3 hfi ha
        have hnum' := hok'.num
        have hfl' := hok'.far
        have hfi3 : i < g'.far.length := by omega
        try simp 
        refine CondK.intro (fun h2 => ?_) (fun h2 => ?_)
        · simp at h2
          have h8 := hms _ (el_mem_of ms k h2)
          rw [drop_cons ms k h2, raddG] at ha
          have hfc := find_c g'.ws (el ms k) (by omega) (fun x hx => by have := (wordErr_zero (hok'.fine x hx)).1; omega)
          have hfa := idxG_lt (fun x => decide (x = el ms k)) g'.ws 0
          have hfr : findI g'.ws (el ms k) = idxG (fun x => decide (x = el ms k)) 0 g'.ws := rfl
          have hfb : findI g'.ws (el ms k) = -1 ∨ (0 ≤ findI g'.ws (el ms k) ∧ findI g'.ws (el ms k) < g'.ws.length) := by
            rcases hfa with e | ⟨j, j1, j2, _⟩
            · exact .inl (hfr.trans e)
            · right; rw [hfr, j2]; omega
          try simp [h2]
          repeat (refine PreK.intro (by first | omega | (intros; first | omega | (refine ⟨by omega, ?_⟩; simp_all; done) | (simp_all; done) | (simp_all; omega))) fun _ => ?_; (try simp [h2]))
          refine CallK.intro (by simpa using hfc) (by simp) (by simp) ?_
          try simp [h2]
          repeat (refine PreK.intro (by first | omega | (intros; first | omega | (refine ⟨by omega, ?_⟩; simp_all; done) | (simp_all; done) | (simp_all; omega))) fun _ => ?_; (try simp [h2]))
          refine CondK.intro (fun h3 => ?_) (fun h3 => ?_)
          · simp at h3
            rw [if_pos h3] at ha
            try simp 
            refine CondK.intro (fun h4 => ?_) (fun h4 => ?_)
            · simp at h4
              rw [if_pos (by omega)] at ha
              subst ha
              try simp 
              apply hr'
              apply hr
              simp [rreachV, rzeroV, ← hc]
            · simp at h4
              rw [if_neg (by omega)] at ha
              have hfi2 := hok'.low i (by omega)
              try simp [h2, hi3, hfi3]
              repeat (refine PreK.intro (by first | omega | (intros; first | omega | (refine ⟨by omega, ?_⟩; simp_all; done) | (simp_all; done) | (simp_all; omega))) fun _ => ?_; (try simp [h2, hi3, hfi3]))
              try simp [h2, hi3, hfi3]
              repeat (refine PreK.intro (by first | omega | (intros; first | omega | (refine ⟨by omega, ?_⟩; simp_all; done) | (simp_all; done) | (simp_all; omega))) fun _ => ?_; (try simp [h2, hi3, hfi3]))
              try simp [h2, hi3, hfi3]
              repeat (refine PreK.intro (by first | omega | (intros; first | omega | (refine ⟨by omega, ?_⟩; simp_all; done) | (simp_all; done) | (simp_all; omega))) fun _ => ?_; (try simp [h2, hi3, hfi3]))
              refine hq' (k + 1, ⟨g'.ws ++ [el ms k], g'.nx, g'.far ++ [el g'.far i + 1]⟩, l ++ [(g'.ws.length : Int)]) _ ⟨by dsimp only; omega, by simp [hkl], hok'.push h8 (by omega) (by omega), hnx, by simp; omega, ?_, ?_⟩ (by dsimp only; omega) (by simp)
              · dsimp only
                rw [el_app_left _ _ (by omega)]
                exact hfi
              · dsimp only
                rw [hfi]; exact ha
          · simp at h3
            rw [if_neg (by omega)] at ha
            try simp 
            repeat (refine PreK.intro (by first | omega | (intros; first | omega | (refine ⟨by omega, ?_⟩; simp_all; done) | (simp_all; done) | (simp_all; omega))) fun _ => ?_; (try simp ))
            try simp 
            repeat (refine PreK.intro (by first | omega | (intros; first | omega | (refine ⟨by omega, ?_⟩; simp_all; done) | (simp_all; done) | (simp_all; omega))) fun _ => ?_; (try simp ))
            refine hq' (k + 1, g', l ++ [findI g'.ws (el ms k)]) _ ⟨by dsimp only; omega, by simp [hkl], hok', hnx, hi3, hfi, ha⟩ (by dsimp only; omega) (by simp)
        · simp at h2
          rw [List.drop_eq_nil_of_le (by omega), raddG] at ha
          subst ha
          have hnn : g'.nx.length = i := by rw [hnx]; exact hnl
          try simp 
          apply he'
          try simp 
          repeat' (first
            | ((with_reducible refine PreK.intro ?_ ?_); (next => (first | omega | (intros; first | omega | (refine ⟨by omega, ?_⟩; repeat (first | assumption | constructor)) | assumption))); intro _; try simp )
            | fail)
          refine hq (false, i + 1, ⟨g'.ws, g'.nx ++ [l], g'.far⟩) _ ⟨fun e => (by cases e), ⟨hok'.fine, hok'.num, hok'.far, hok'.low⟩, hi3, by simp [hnn], by dsimp only; rw [show 301 - (i + 1) = n by omega, hnx]; exact hc⟩ (by dsimp only; omega) (by simp)
      · simp at h1
        omega
    · have hnx0 := hkd rfl
      try simp 
      refine CondK.intro (fun h1 => ?_) (fun h1 => ?_)
      · try simp 
        try simp [hi2]
        repeat' (first
          | (refine CallX.pure (hmc) (by simp) (by simp) ?_; try simp [hi2])
          | (refine CallK.intro (hmc) (by simp) (by simp) ?_; try simp [hi2])
          | (refine CallG.intro (fun _ => hmc) (by simp) (by simp) ?_; try simp [hi2])
          | ((with_reducible refine PreK.intro ?_ ?_); (next => (first | omega | (intros; first | omega | (refine ⟨by omega, ?_⟩; repeat (first | assumption | constructor)) | assumption))); intro _; try simp [hi2])
          | fail)
        refine LoopK.by (ι := Nat × RG × List Int) (fun x => ⟨[(10, iv x.1), (9, wordsV ms), (8, .sl 8 (x.2.2.length + 1) 0 x.2.2.length), (7, iv i), (6, .pt 6 1 0 0), (4, .pt 4 1 0 0), (0, rulesV s)], (8, some ⟨1, x.2.2.map iv, x.2.2.length + 1, false⟩) :: rboxT x.2.1⟩)
          (fun x => ms.length - x.1) (fun x => x.1 ≤ ms.length ∧ x.2.2.length = x.1 ∧ x.2.1.ok ∧ x.2.1.nx = g.nx ∧ i < x.2.1.ws.length ∧ el x.2.1.far i = el g.far i ∧ raddG (el g.far i + 1) x.2.1.ws x.2.1.far x.2.2 (ms.drop x.1) = RA) (0, g, []) ⟨by simp, rfl, hok, rfl, hi2, rfl, hRA⟩ (by simp) ?_
        intro ⟨k, g', l⟩ Q'' ⟨hk, hkl, hok', hnx, hi3, hfi, ha⟩ hq' he' hr'
        dsimp only at hk hkl hok' hnx hi3 hfi ha
        have hnum' := hok'.num
        have hfl' := hok'.far
        have hfi3 : i < g'.far.length := by omega
        try simp 
        refine CondK.intro (fun h2 => ?_) (fun h2 => ?_)
        · simp at h2
          have h8 := hms _ (el_mem_of ms k h2)
          rw [drop_cons ms k h2, raddG] at ha
          have hfc := find_c g'.ws (el ms k) (by omega) (fun x hx => by have := (wordErr_zero (hok'.fine x hx)).1; omega)
          have hfa := idxG_lt (fun x => decide (x = el ms k)) g'.ws 0
          have hfr : findI g'.ws (el ms k) = idxG (fun x => decide (x = el ms k)) 0 g'.ws := rfl
          have hfb : findI g'.ws (el ms k) = -1 ∨ (0 ≤ findI g'.ws (el ms k) ∧ findI g'.ws (el ms k) < g'.ws.length) := by
            rcases hfa with e | ⟨j, j1, j2, _⟩
            · exact .inl (hfr.trans e)
            · right; rw [hfr, j2]; omega
          try simp [h2]
          repeat (refine PreK.intro (by first | omega | (intros; first | omega | (refine ⟨by omega, ?_⟩; simp_all; done) | (simp_all; done) | (simp_all; omega))) fun _ => ?_; (try simp [h2]))
          refine CallK.intro (by simpa using hfc) (by simp) (by simp) ?_
          try simp [h2]
          repeat (refine PreK.intro (by first | omega | (intros; first | omega | (refine ⟨by omega, ?_⟩; simp_all; done) | (simp_all; done) | (simp_all; omega))) fun _ => ?_; (try simp [h2]))
          refine CondK.intro (fun h3 => ?_) (fun h3 => ?_)
          · simp at h3
            rw [if_pos h3] at ha
            try simp 
            refine CondK.intro (fun h4 => ?_) (fun h4 => ?_)
            · simp at h4
              rw [if_pos (by omega)] at ha
              subst ha
              try simp 
              apply hr'
              apply hr
              simp [rreachV, rzeroV, ← hc]
            · simp at h4
              rw [if_neg (by omega)] at ha
              have hfi2 := hok'.low i (by omega)
              try simp [h2, hi3, hfi3]
              repeat (refine PreK.intro (by first | omega | (intros; first | omega | (refine ⟨by omega, ?_⟩; simp_all; done) | (simp_all; done) | (simp_all; omega))) fun _ => ?_; (try simp [h2, hi3, hfi3]))
              try simp [h2, hi3, hfi3]
              repeat (refine PreK.intro (by first | omega | (intros; first | omega | (refine ⟨by omega, ?_⟩; simp_all; done) | (simp_all; done) | (simp_all; omega))) fun _ => ?_; (try simp [h2, hi3, hfi3]))
              try simp [h2, hi3, hfi3]
              repeat (refine PreK.intro (by first | omega | (intros; first | omega | (refine ⟨by omega, ?_⟩; simp_all; done) | (simp_all; done) | (simp_all; omega))) fun _ => ?_; (try simp [h2, hi3, hfi3]))
              refine hq' (k + 1, ⟨g'.ws ++ [el ms k], g'.nx, g'.far ++ [el g'.far i + 1]⟩, l ++ [(g'.ws.length : Int)]) _ ⟨by dsimp only; omega, by simp [hkl], hok'.push h8 (by omega) (by omega), hnx, by simp; omega, ?_, ?_⟩ (by dsimp only; omega) (by simp)
              · dsimp only
                rw [el_app_left _ _ (by omega)]
                exact hfi
              · dsimp only
                rw [hfi]; exact ha
          · simp at h3
            rw [if_neg (by omega)] at ha
            try simp 
            repeat (refine PreK.intro (by first | omega | (intros; first | omega | (refine ⟨by omega, ?_⟩; simp_all; done) | (simp_all; done) | (simp_all; omega))) fun _ => ?_; (try simp ))
            try simp 
            repeat (refine PreK.intro (by first | omega | (intros; first | omega | (refine ⟨by omega, ?_⟩; simp_all; done) | (simp_all; done) | (simp_all; omega))) fun _ => ?_; (try simp ))
            refine hq' (k + 1, g', l ++ [findI g'.ws (el ms k)]) _ ⟨by dsimp only; omega, by simp [hkl], hok', hnx, hi3, hfi, ha⟩ (by dsimp only; omega) (by simp)
        · simp at h2
          rw [List.drop_eq_nil_of_le (by omega), raddG] at ha
          subst ha
          have hnn : g'.nx = [] := by rw [hnx]; exact hnx0
          have hi0 : i = 0 := by rw [← hnl, hnx0]; rfl
          try simp 
          apply he'
          try simp 
          repeat' (first
            | ((with_reducible refine PreK.intro ?_ ?_); (next => (first | omega | (intros; first | omega | (refine ⟨by omega, ?_⟩; repeat (first | assumption | constructor)) | assumption))); intro _; try simp )
            | fail)
          refine hq (false, i + 1, ⟨g'.ws, g'.nx ++ [l], g'.far⟩) _ ⟨fun e => (by cases e), ⟨hok'.fine, hok'.num, hok'.far, hok'.low⟩, hi3, by simp [hnn, hi0], by dsimp only; rw [show 301 - (i + 1) = n by omega, hnx]; exact hc⟩ (by dsimp only; omega) (by simp [hnn])
      · simp at h1
        omega
  · rw [if_neg hi2] at hc
    cases kd
    · try simp 
      refine CondK.intro (fun h1 => ?_) (fun h1 => ?_)
      · simp at h1
        omega
      · try simp 
        apply he
        try simp 
        simp [rreachV, rgraphV, ← hc]
    · have hnx0 := hkd rfl
      try simp 
      refine CondK.intro (fun h1 => ?_) (fun h1 => ?_)
      · simp at h1
        omega
      · try simp 
        apply he
        try simp 
        simp [rreachV, rgraphV, ← hc, hnx0]
end Go.Proofs.YtkhddecnllcaiaaGreat
end
