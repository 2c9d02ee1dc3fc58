/- Part 5 of the proof: the value layer and the contracts of the functions that the statement reaches; proved without conditions beyond those each theorem states. -/
import Derived.Shelf.SlSortCmp.Whole1
import Derived.Shelf.SlSortCmp.NoneTotal
import Derived.Test.YtkhddecnllcaiaaGreatProg
import Derived.Shelf.Sort.Plain
import Derived.Shelf.Slices.In.SortNone
import Derived.Test.YtkhddecnllcaiaaGreatV2
import Derived.Test.YtkhddecnllcaiaaGreatV3
import Derived.Test.YtkhddecnllcaiaaGreatV4
set_option linter.unusedSimpArgs false
set_option linter.unusedVariables false

section
/- Functions of the cut as the value layer reads them. (written by gen.py) -/
set_option maxRecDepth 20000
namespace Go.Proofs.YtkhddecnllcaiaaGreat
open Go.Abs Go

def A44 : ACode :=
  (.seq (.reg [] [⟨some 4, (.assign (.const (.bool false))), 4, none⟩])
    (.seq (.reg [] [⟨some 5, (.move (.tmp 0)), 65, none⟩,
      ⟨some 6, (.move (.tmp 1)), 72, none⟩,
      ⟨some 7, (.call ⟨(.value (.func 82)), #[(.tmp 5), (.tmp 6)], #[65, 72]⟩), 3, none⟩,
      ⟨some 8, (.binOp .geq 3 (.tmp 7) (.const (.int .i64 0)) 3), 4, none⟩,
      ⟨some 4, (.assign (.tmp 8)), 4, none⟩])
    .ret))
theorem C44 {args : List AV} {r : AV} (hn : args.length ≤ 9) (h : vc Tryz.prog T [] A44 (Fin T [(.tmp 4)] r) ⟨envOf 0 args, []⟩) : CallP Tryz.prog 44 args r :=
  callP_of tok mixed Tryz.func44 (by kernel_rfl) (by kernel_rfl) (by kernel_rfl : Tryz.f44.ntmps = 9) (by kernel_rfl : Tryz.f44.body.bind (strip 9 (fun _ => [])) = some A44) hn h
def A82 : ACode :=
  (.seq (.reg [] [⟨some 4, (.assign (.const (.int .i64 0))), 3, none⟩])
    (.seq (.seq (.reg [] [⟨some 6, (.move (.tmp 0)), 65, none⟩,
      ⟨some 7, (.call ⟨(.builtin .len), #[(.tmp 6)], #[65]⟩), 3, none⟩,
      ⟨some 8, (.move (.const (.int .i64 0))), 3, none⟩])
    (.block 0 (.loop (.seq (.reg [] [⟨some 9, (.binOp .lss 3 (.tmp 8) (.tmp 7) 3), 0, none⟩])
    (.seq (.cond (.tmp 9)
    .skip
    (.exit 0))
    (.seq (.block 1 (.seq (.reg [] [⟨some 10, (.move (.tmp 8)), 3, none⟩,
      ⟨some 5, (.assign (.tmp 10)), 3, none⟩])
    (.seq (.reg [] [⟨some 11, (.move (.tmp 1)), 72, none⟩,
      ⟨some 12, (.move (.tmp 0)), 65, none⟩,
      ⟨some 13, (.move (.tmp 5)), 3, none⟩,
      ⟨some 14, (.indexAddr 65 (.tmp 12) (.tmp 13)), 0, none⟩,
      ⟨some 15, (.load 70 (.tmp 14)), 70, none⟩,
      ⟨some 16, (.call ⟨(.value (.tmp 11)), #[(.tmp 15)], #[70]⟩), 4, none⟩])
    (.cond (.tmp 16)
    (.seq (.reg [] [⟨some 17, (.move (.tmp 5)), 3, none⟩,
      ⟨some 4, (.assign (.tmp 17)), 3, none⟩])
    .ret)
    .skip))))
    (.reg [] [⟨some 18, (.binOp .add 3 (.tmp 8) (.const (.int .i64 1)) 3), 3, none⟩,
      ⟨some 8, (.move (.tmp 18)), 3, none⟩])))))))
    (.seq (.reg [] [⟨some 4, (.assign (.const (.int .i64 (-1)))), 3, none⟩])
    .ret)))
theorem C82 {args : List AV} {r : AV} (hn : args.length ≤ 19) (h : vc Tryz.prog T [] A82 (Fin T [(.tmp 4)] r) ⟨envOf 0 args, []⟩) : CallP Tryz.prog 82 args r :=
  callP_of tok mixed Tryz.func82 (by kernel_rfl) (by kernel_rfl) (by kernel_rfl : Tryz.f82.ntmps = 19) (by kernel_rfl : Tryz.f82.body.bind (strip 19 (fun _ => [])) = some A82) hn h
def A18 : ACode :=
  (.seq (.reg [] [⟨some 6, (.assign (.const (.slice none 0 0))), 23, none⟩,
      ⟨some 7, (.assign (.const (.int .i64 0))), 28, none⟩])
    (.seq (.reg [] [⟨some 14, (.move (.tmp 0)), 22, none⟩,
      ⟨some 15, (.move (.tmp 1)), 23, none⟩,
      ⟨some 16, (.move (.tmp 2)), 23, none⟩,
      ⟨some 17, (.call ⟨(.value (.func 42)), #[(.tmp 14), (.tmp 15), (.tmp 16)], #[22, 23, 23]⟩), 66, none⟩,
      ⟨some 13, (.move (.tmp 17)), 66, none⟩,
      ⟨some 18, (.extract (.tmp 13) 0), 65, none⟩,
      ⟨some 19, (.extract (.tmp 13) 1), 23, none⟩,
      ⟨some 20, (.extract (.tmp 13) 2), 28, none⟩,
      ⟨some 8, (.assign (.tmp 18)), 65, none⟩,
      ⟨some 9, (.assign (.tmp 19)), 23, none⟩,
      ⟨some 10, (.assign (.tmp 20)), 28, none⟩])
    (.seq (.seq (.reg [] [⟨some 21, (.move (.tmp 10)), 28, none⟩,
      ⟨some 22, (.binOp .neq 28 (.tmp 21) (.const (.int .i64 0)) 28), 4, none⟩])
    (.cond (.tmp 22)
    (.seq (.reg [] [⟨some 23, (.move (.tmp 10)), 28, none⟩,
      ⟨some 6, (.assign (.const (.slice none 0 0))), 23, none⟩,
      ⟨some 7, (.assign (.tmp 23)), 28, none⟩])
    .ret)
    .skip))
    (.seq (.reg [] [⟨some 11, (.assign (.const (.slice none 0 0))), 23, none⟩])
    (.seq (.seq (.reg [] [⟨some 12, (.alloc 3), 0, none⟩,
      ⟨none, (.store 3 (.tmp 12) (.const (.int .i64 1))), 0, none⟩])
    (.block 0 (.loop (.seq (.seq (.reg [] [⟨some 24, (.load 3 (.tmp 12)), 3, none⟩,
      ⟨some 25, (.binOp .leq 3 (.tmp 24) (.const (.int .i64 4)) 3), 4, none⟩])
    (.cond (.tmp 25)
    .skip
    (.exit 0)))
    (.seq (.block 1 (.seq (.reg [] [⟨some 28, (.move (.tmp 8)), 65, none⟩,
      ⟨some 29, (.makeFunc (.func 45) #[] #[(.tmp 12)]), 72, none⟩,
      ⟨some 30, (.call ⟨(.value (.func 44)), #[(.tmp 28), (.tmp 29)], #[65, 72]⟩), 4, none⟩])
    (.cond (.tmp 30)
    (.reg [] [⟨some 31, (.move (.tmp 11)), 23, none⟩,
      ⟨some 32, (.load 3 (.tmp 12)), 3, none⟩,
      ⟨some 33, (.buildSlice 23 1 #[(0, (.tmp 32))]), 23, none⟩,
      ⟨some 34, (.call ⟨(.builtin .append), #[(.tmp 31), (.tmp 33)], #[23, 23]⟩), 23, none⟩,
      ⟨some 11, (.assign (.tmp 34)), 23, none⟩])
    .skip)))
    (.seq (.seq (.reg [] [⟨some 35, (.load 3 (.tmp 12)), 3, none⟩])
    (.reg [] [⟨some 12, (.alloc 3), 0, none⟩,
      ⟨none, (.store 3 (.tmp 12) (.tmp 35)), 0, none⟩]))
    (.reg [] [⟨some 26, (.load 3 (.tmp 12)), 3, none⟩,
      ⟨some 27, (.binOp .add 3 (.tmp 26) (.const (.int .i64 1)) 3), 3, none⟩,
      ⟨none, (.store 3 (.tmp 12) (.tmp 27)), 0, none⟩])))))))
    (.seq (.reg [] [⟨some 36, (.move (.tmp 11)), 23, none⟩,
      ⟨some 6, (.assign (.tmp 36)), 23, none⟩,
      ⟨some 7, (.assign (.const (.int .i64 0))), 28, none⟩])
    .ret))))))
theorem C18 {args : List AV} {r : AV} (hn : args.length ≤ 37) (h : vc Tryz.prog T [] A18 (Fin T [(.tmp 6), (.tmp 7)] r) ⟨envOf 0 args, []⟩) : CallP Tryz.prog 18 args r :=
  callP_of tok mixed Tryz.func18 (by kernel_rfl) (by kernel_rfl) (by kernel_rfl : Tryz.f18.ntmps = 37) (by kernel_rfl : Tryz.f18.body.bind (strip 37 (fun _ => [])) = some A18) hn h
def A45 : ACode :=
  (.seq (.reg [] [⟨some 2, (.box 70 (.tmp 0)), 0, none⟩,
      ⟨some 3, (.assign (.const (.bool false))), 4, none⟩])
    (.seq (.reg [] [⟨some 4, (.fieldAddr 70 (.tmp 2) 2), 0, none⟩,
      ⟨some 5, (.load 3 (.tmp 4)), 3, none⟩,
      ⟨some 6, (.load 3 (.tmp 1)), 3, none⟩,
      ⟨some 7, (.binOp .eql 3 (.tmp 5) (.tmp 6) 3), 4, none⟩,
      ⟨some 3, (.assign (.tmp 7)), 4, none⟩])
    .ret))
theorem C45 {args : List AV} {r : AV} (hn : args.length ≤ 8) (h : vc Tryz.prog T [] A45 (Fin T [(.tmp 3)] r) ⟨envOf 0 args, []⟩) : CallP Tryz.prog 45 args r :=
  callP_of tok mixed Tryz.func45 (by kernel_rfl) (by kernel_rfl) (by kernel_rfl : Tryz.f45.ntmps = 8) (by kernel_rfl : Tryz.f45.body.bind (strip 8 (fun _ => [])) = some A45) hn h
def A19 : ACode :=
  (.seq (.reg [] [⟨some 6, (.assign (.const (.slice none 0 0))), 23, none⟩,
      ⟨some 7, (.assign (.const (.int .i64 0))), 28, none⟩])
    (.seq (.reg [] [⟨some 15, (.move (.tmp 0)), 22, none⟩,
      ⟨some 16, (.move (.tmp 1)), 23, none⟩,
      ⟨some 17, (.move (.tmp 2)), 23, none⟩,
      ⟨some 18, (.call ⟨(.value (.func 46)), #[(.tmp 15), (.tmp 16), (.tmp 17)], #[22, 23, 23]⟩), 66, none⟩,
      ⟨some 14, (.move (.tmp 18)), 66, none⟩,
      ⟨some 19, (.extract (.tmp 14) 0), 65, none⟩,
      ⟨some 20, (.extract (.tmp 14) 1), 23, none⟩,
      ⟨some 21, (.extract (.tmp 14) 2), 28, none⟩,
      ⟨some 8, (.assign (.tmp 19)), 65, none⟩,
      ⟨some 9, (.assign (.tmp 20)), 23, none⟩,
      ⟨some 10, (.assign (.tmp 21)), 28, none⟩])
    (.seq (.seq (.reg [] [⟨some 22, (.move (.tmp 10)), 28, none⟩,
      ⟨some 23, (.binOp .neq 28 (.tmp 22) (.const (.int .i64 0)) 28), 4, none⟩])
    (.cond (.tmp 23)
    (.seq (.reg [] [⟨some 24, (.move (.tmp 10)), 28, none⟩,
      ⟨some 6, (.assign (.const (.slice none 0 0))), 23, none⟩,
      ⟨some 7, (.assign (.tmp 24)), 28, none⟩])
    .ret)
    .skip))
    (.seq (.reg [] [⟨some 11, (.assign (.const (.slice none 0 0))), 23, none⟩])
    (.seq (.seq (.reg [] [⟨some 12, (.assign (.const (.int .i64 1))), 3, none⟩])
    (.block 0 (.loop (.seq (.seq (.reg [] [⟨some 25, (.move (.tmp 12)), 3, none⟩,
      ⟨some 26, (.binOp .leq 3 (.tmp 25) (.const (.int .i64 4)) 3), 4, none⟩])
    (.cond (.tmp 26)
    .skip
    (.exit 0)))
    (.seq (.block 1 (.seq (.reg [] [⟨some 13, (.assign (.const (.int .i64 0))), 3, none⟩])
    (.block 2 (.loop (.seq (.seq (.reg [] [⟨some 29, (.move (.tmp 13)), 3, none⟩,
      ⟨some 30, (.move (.tmp 8)), 65, none⟩,
      ⟨some 31, (.call ⟨(.builtin .len), #[(.tmp 30)], #[65]⟩), 3, none⟩,
      ⟨some 32, (.binOp .lss 3 (.tmp 29) (.tmp 31) 3), 4, none⟩])
    (.cond (.tmp 32)
    .skip
    (.exit 2)))
    (.seq (.block 3 (.seq (.reg [] [⟨some 35, (.move (.tmp 8)), 65, none⟩,
      ⟨some 36, (.move (.tmp 13)), 3, none⟩,
      ⟨some 37, (.indexAddr 65 (.tmp 35) (.tmp 36)), 0, none⟩,
      ⟨some 38, (.fieldAddr 70 (.tmp 37) 2), 0, none⟩,
      ⟨some 39, (.load 3 (.tmp 38)), 3, none⟩,
      ⟨some 40, (.move (.tmp 12)), 3, none⟩,
      ⟨some 41, (.binOp .eql 3 (.tmp 39) (.tmp 40) 3), 4, none⟩])
    (.cond (.tmp 41)
    (.seq (.reg [] [⟨some 42, (.move (.tmp 11)), 23, none⟩,
      ⟨some 43, (.move (.tmp 12)), 3, none⟩,
      ⟨some 44, (.buildSlice 23 1 #[(0, (.tmp 43))]), 23, none⟩,
      ⟨some 45, (.call ⟨(.builtin .append), #[(.tmp 42), (.tmp 44)], #[23, 23]⟩), 23, none⟩,
      ⟨some 11, (.assign (.tmp 45)), 23, none⟩])
    (.exit 2))
    .skip)))
    (.reg [] [⟨some 33, (.move (.tmp 13)), 3, none⟩,
      ⟨some 34, (.binOp .add 3 (.tmp 33) (.const (.int .i64 1)) 3), 3, none⟩,
      ⟨some 13, (.assign (.tmp 34)), 3, none⟩])))))))
    (.reg [] [⟨some 27, (.move (.tmp 12)), 3, none⟩,
      ⟨some 28, (.binOp .add 3 (.tmp 27) (.const (.int .i64 1)) 3), 3, none⟩,
      ⟨some 12, (.assign (.tmp 28)), 3, none⟩]))))))
    (.seq (.reg [] [⟨some 46, (.move (.tmp 11)), 23, none⟩,
      ⟨some 6, (.assign (.tmp 46)), 23, none⟩,
      ⟨some 7, (.assign (.const (.int .i64 0))), 28, none⟩])
    .ret))))))
theorem C19 {args : List AV} {r : AV} (hn : args.length ≤ 47) (h : vc Tryz.prog T [] A19 (Fin T [(.tmp 6), (.tmp 7)] r) ⟨envOf 0 args, []⟩) : CallP Tryz.prog 19 args r :=
  callP_of tok mixed Tryz.func19 (by kernel_rfl) (by kernel_rfl) (by kernel_rfl : Tryz.f19.ntmps = 47) (by kernel_rfl : Tryz.f19.body.bind (strip 47 (fun _ => [])) = some A19) hn h
def A20 : ACode :=
  (.seq (.reg [] [⟨some 6, (.assign (.const (.slice none 0 0))), 23, none⟩,
      ⟨some 7, (.assign (.const (.int .i64 0))), 28, none⟩])
    (.seq (.reg [] [⟨some 18, (.move (.tmp 0)), 22, none⟩,
      ⟨some 19, (.move (.tmp 1)), 23, none⟩,
      ⟨some 20, (.move (.tmp 2)), 23, none⟩,
      ⟨some 21, (.call ⟨(.value (.func 42)), #[(.tmp 18), (.tmp 19), (.tmp 20)], #[22, 23, 23]⟩), 66, none⟩,
      ⟨some 17, (.move (.tmp 21)), 66, none⟩,
      ⟨some 22, (.extract (.tmp 17) 0), 65, none⟩,
      ⟨some 23, (.extract (.tmp 17) 1), 23, none⟩,
      ⟨some 24, (.extract (.tmp 17) 2), 28, none⟩,
      ⟨some 8, (.assign (.tmp 22)), 65, none⟩,
      ⟨some 9, (.assign (.tmp 23)), 23, none⟩,
      ⟨some 10, (.assign (.tmp 24)), 28, none⟩])
    (.seq (.seq (.reg [] [⟨some 25, (.move (.tmp 10)), 28, none⟩,
      ⟨some 26, (.binOp .neq 28 (.tmp 25) (.const (.int .i64 0)) 28), 4, none⟩])
    (.cond (.tmp 26)
    (.seq (.reg [] [⟨some 27, (.move (.tmp 10)), 28, none⟩,
      ⟨some 6, (.assign (.const (.slice none 0 0))), 23, none⟩,
      ⟨some 7, (.assign (.tmp 27)), 28, none⟩])
    .ret)
    .skip))
    (.seq (.reg [] [⟨some 11, (.assign (.const (.slice none 0 0))), 23, none⟩])
    (.seq (.seq (.reg [] [⟨some 28, (.move (.tmp 2)), 23, none⟩,
      ⟨some 29, (.call ⟨(.builtin .len), #[(.tmp 28)], #[23]⟩), 3, none⟩,
      ⟨some 30, (.move (.const (.int .i64 0))), 3, none⟩])
    (.block 0 (.loop (.seq (.reg [] [⟨some 31, (.binOp .lss 3 (.tmp 30) (.tmp 29) 3), 0, none⟩])
    (.seq (.cond (.tmp 31)
    .skip
    (.exit 0))
    (.seq (.block 1 (.seq (.reg [] [⟨some 32, (.indexAddr 23 (.tmp 28) (.tmp 30)), 0, none⟩,
      ⟨some 33, (.load 3 (.tmp 32)), 3, none⟩,
      ⟨some 13, (.assign (.tmp 33)), 3, none⟩])
    (.seq (.reg [] [⟨some 35, (.move (.tmp 0)), 22, none⟩,
      ⟨some 36, (.move (.tmp 1)), 23, none⟩,
      ⟨some 37, (.move (.tmp 2)), 23, none⟩,
      ⟨some 38, (.move (.tmp 13)), 3, none⟩,
      ⟨some 39, (.call ⟨(.value (.func 48)), #[(.tmp 37), (.tmp 38)], #[23, 3]⟩), 23, none⟩,
      ⟨some 40, (.call ⟨(.value (.func 47)), #[(.tmp 35), (.tmp 36), (.tmp 39)], #[22, 23, 23]⟩), 66, none⟩,
      ⟨some 34, (.move (.tmp 40)), 66, none⟩,
      ⟨some 41, (.extract (.tmp 34) 0), 65, none⟩,
      ⟨some 42, (.extract (.tmp 34) 1), 23, none⟩,
      ⟨some 43, (.extract (.tmp 34) 2), 28, none⟩,
      ⟨some 14, (.assign (.tmp 41)), 65, none⟩,
      ⟨some 15, (.assign (.tmp 42)), 23, none⟩,
      ⟨some 16, (.assign (.tmp 43)), 28, none⟩])
    (.seq (.reg [] [⟨some 44, (.move (.tmp 16)), 28, none⟩,
      ⟨some 45, (.binOp .eql 28 (.tmp 44) (.const (.int .i64 0)) 28), 4, none⟩,
      ⟨some 46, (.move (.tmp 45)), 4, none⟩,
      ⟨some 47, (.move (.tmp 15)), 23, some (46, true)⟩,
      ⟨some 48, (.move (.tmp 9)), 23, some (46, true)⟩,
      ⟨some 49, (.call ⟨(.value (.func 49)), #[(.tmp 47), (.tmp 48)], #[23, 23]⟩), 4, some (46, true)⟩,
      ⟨some 50, (.pick (.tmp 46) (.tmp 49) (.const (.bool false))), 4, none⟩])
    (.cond (.tmp 50)
    (.reg [] [⟨some 51, (.move (.tmp 11)), 23, none⟩,
      ⟨some 52, (.move (.tmp 13)), 3, none⟩,
      ⟨some 53, (.buildSlice 23 1 #[(0, (.tmp 52))]), 23, none⟩,
      ⟨some 54, (.call ⟨(.builtin .append), #[(.tmp 51), (.tmp 53)], #[23, 23]⟩), 23, none⟩,
      ⟨some 11, (.assign (.tmp 54)), 23, none⟩])
    .skip)))))
    (.reg [] [⟨some 55, (.binOp .add 3 (.tmp 30) (.const (.int .i64 1)) 3), 3, none⟩,
      ⟨some 30, (.move (.tmp 55)), 3, none⟩])))))))
    (.seq (.reg [] [⟨some 56, (.move (.tmp 11)), 23, none⟩,
      ⟨some 57, (.call ⟨(.value (.func 50)), #[(.tmp 56)], #[23]⟩), 0, none⟩])
    (.seq (.reg [] [⟨some 58, (.move (.tmp 11)), 23, none⟩,
      ⟨some 6, (.assign (.tmp 58)), 23, none⟩,
      ⟨some 7, (.assign (.const (.int .i64 0))), 28, none⟩])
    .ret)))))))
theorem C20 {args : List AV} {r : AV} (hn : args.length ≤ 59) (h : vc Tryz.prog T [] A20 (Fin T [(.tmp 6), (.tmp 7)] r) ⟨envOf 0 args, []⟩) : CallP Tryz.prog 20 args r :=
  callP_of tok mixed Tryz.func20 (by kernel_rfl) (by kernel_rfl) (by kernel_rfl : Tryz.f20.ntmps = 59) (by kernel_rfl : Tryz.f20.body.bind (strip 59 (fun _ => [])) = some A20) hn h
def A21 : ACode :=
  (.seq (.reg [] [⟨some 6, (.assign (.const (.slice none 0 0))), 23, none⟩,
      ⟨some 7, (.assign (.const (.int .i64 0))), 28, none⟩])
    (.seq (.reg [] [⟨some 16, (.move (.tmp 0)), 22, none⟩,
      ⟨some 17, (.move (.tmp 1)), 23, none⟩,
      ⟨some 18, (.move (.tmp 2)), 23, none⟩,
      ⟨some 19, (.call ⟨(.value (.func 51)), #[(.tmp 16), (.tmp 17), (.tmp 18)], #[22, 23, 23]⟩), 38, none⟩,
      ⟨some 15, (.move (.tmp 19)), 38, none⟩,
      ⟨some 20, (.extract (.tmp 15) 0), 23, none⟩,
      ⟨some 21, (.extract (.tmp 15) 1), 28, none⟩,
      ⟨some 8, (.assign (.tmp 20)), 23, none⟩,
      ⟨some 9, (.assign (.tmp 21)), 28, none⟩])
    (.seq (.seq (.reg [] [⟨some 22, (.move (.tmp 9)), 28, none⟩,
      ⟨some 23, (.binOp .neq 28 (.tmp 22) (.const (.int .i64 0)) 28), 4, none⟩])
    (.cond (.tmp 23)
    (.seq (.reg [] [⟨some 24, (.move (.tmp 9)), 28, none⟩,
      ⟨some 6, (.assign (.const (.slice none 0 0))), 23, none⟩,
      ⟨some 7, (.assign (.tmp 24)), 28, none⟩])
    .ret)
    .skip))
    (.seq (.reg [] [⟨some 10, (.assign (.const (.slice none 0 0))), 23, none⟩])
    (.seq (.seq (.reg [] [⟨some 11, (.assign (.const (.int .i64 1))), 3, none⟩])
    (.block 0 (.loop (.seq (.seq (.reg [] [⟨some 25, (.move (.tmp 11)), 3, none⟩,
      ⟨some 26, (.binOp .leq 3 (.tmp 25) (.const (.int .i64 4)) 3), 4, none⟩])
    (.cond (.tmp 26)
    .skip
    (.exit 0)))
    (.seq (.block 1 (.seq (.seq (.reg [] [⟨some 29, (.move (.tmp 2)), 23, none⟩,
      ⟨some 30, (.move (.tmp 11)), 3, none⟩,
      ⟨some 31, (.call ⟨(.value (.func 52)), #[(.tmp 29), (.tmp 30)], #[23, 3]⟩), 4, none⟩,
      ⟨some 32, (.unOp .not 4 (.tmp 31)), 4, none⟩])
    (.cond (.tmp 32)
    (.exit 1)
    .skip))
    (.seq (.reg [] [⟨some 34, (.move (.tmp 0)), 22, none⟩,
      ⟨some 35, (.move (.tmp 1)), 23, none⟩,
      ⟨some 36, (.move (.tmp 2)), 23, none⟩,
      ⟨some 37, (.move (.tmp 11)), 3, none⟩,
      ⟨some 38, (.call ⟨(.value (.func 54)), #[(.tmp 36), (.tmp 37)], #[23, 3]⟩), 23, none⟩,
      ⟨some 39, (.call ⟨(.value (.func 53)), #[(.tmp 34), (.tmp 35), (.tmp 38)], #[22, 23, 23]⟩), 76, none⟩,
      ⟨some 33, (.move (.tmp 39)), 76, none⟩,
      ⟨some 40, (.extract (.tmp 33) 0), 65, none⟩,
      ⟨some 41, (.extract (.tmp 33) 1), 23, none⟩,
      ⟨some 42, (.extract (.tmp 33) 2), 4, none⟩,
      ⟨some 12, (.assign (.tmp 40)), 65, none⟩,
      ⟨some 13, (.assign (.tmp 41)), 23, none⟩,
      ⟨some 14, (.assign (.tmp 42)), 4, none⟩])
    (.seq (.reg [] [⟨some 43, (.move (.tmp 14)), 4, none⟩,
      ⟨some 44, (.move (.tmp 43)), 4, none⟩,
      ⟨some 45, (.move (.tmp 13)), 23, some (44, true)⟩,
      ⟨some 46, (.move (.tmp 8)), 23, some (44, true)⟩,
      ⟨some 47, (.call ⟨(.value (.func 22)), #[(.tmp 45), (.tmp 46)], #[23, 23]⟩), 4, some (44, true)⟩,
      ⟨some 48, (.pick (.tmp 44) (.tmp 47) (.const (.bool false))), 4, none⟩])
    (.cond (.tmp 48)
    (.reg [] [⟨some 49, (.move (.tmp 10)), 23, none⟩,
      ⟨some 50, (.move (.tmp 11)), 3, none⟩,
      ⟨some 51, (.buildSlice 23 1 #[(0, (.tmp 50))]), 23, none⟩,
      ⟨some 52, (.call ⟨(.builtin .append), #[(.tmp 49), (.tmp 51)], #[23, 23]⟩), 23, none⟩,
      ⟨some 10, (.assign (.tmp 52)), 23, none⟩])
    .skip)))))
    (.reg [] [⟨some 27, (.move (.tmp 11)), 3, none⟩,
      ⟨some 28, (.binOp .add 3 (.tmp 27) (.const (.int .i64 1)) 3), 3, none⟩,
      ⟨some 11, (.assign (.tmp 28)), 3, none⟩]))))))
    (.seq (.reg [] [⟨some 53, (.move (.tmp 10)), 23, none⟩,
      ⟨some 6, (.assign (.tmp 53)), 23, none⟩,
      ⟨some 7, (.assign (.const (.int .i64 0))), 28, none⟩])
    .ret))))))
theorem C21 {args : List AV} {r : AV} (hn : args.length ≤ 54) (h : vc Tryz.prog T [] A21 (Fin T [(.tmp 6), (.tmp 7)] r) ⟨envOf 0 args, []⟩) : CallP Tryz.prog 21 args r :=
  callP_of tok mixed Tryz.func21 (by kernel_rfl) (by kernel_rfl) (by kernel_rfl : Tryz.f21.ntmps = 54) (by kernel_rfl : Tryz.f21.body.bind (strip 54 (fun _ => [])) = some A21) hn h
def A51 : ACode :=
  (.seq (.reg [] [⟨some 6, (.assign (.const (.slice none 0 0))), 23, none⟩,
      ⟨some 7, (.assign (.const (.int .i64 0))), 28, none⟩])
    (.seq (.reg [] [⟨some 12, (.move (.tmp 0)), 22, none⟩,
      ⟨some 13, (.move (.tmp 1)), 23, none⟩,
      ⟨some 14, (.move (.tmp 2)), 23, none⟩,
      ⟨some 15, (.call ⟨(.value (.func 46)), #[(.tmp 12), (.tmp 13), (.tmp 14)], #[22, 23, 23]⟩), 66, none⟩,
      ⟨some 11, (.move (.tmp 15)), 66, none⟩,
      ⟨some 16, (.extract (.tmp 11) 0), 65, none⟩,
      ⟨some 17, (.extract (.tmp 11) 1), 23, none⟩,
      ⟨some 18, (.extract (.tmp 11) 2), 28, none⟩,
      ⟨some 8, (.assign (.tmp 16)), 65, none⟩,
      ⟨some 9, (.assign (.tmp 17)), 23, none⟩,
      ⟨some 10, (.assign (.tmp 18)), 28, none⟩])
    (.seq (.reg [] [⟨some 19, (.move (.tmp 9)), 23, none⟩,
      ⟨some 20, (.move (.tmp 10)), 28, none⟩,
      ⟨some 6, (.assign (.tmp 19)), 23, none⟩,
      ⟨some 7, (.assign (.tmp 20)), 28, none⟩])
    .ret)))
theorem C51 {args : List AV} {r : AV} (hn : args.length ≤ 21) (h : vc Tryz.prog T [] A51 (Fin T [(.tmp 6), (.tmp 7)] r) ⟨envOf 0 args, []⟩) : CallP Tryz.prog 51 args r :=
  callP_of tok mixed Tryz.func51 (by kernel_rfl) (by kernel_rfl) (by kernel_rfl : Tryz.f51.ntmps = 21) (by kernel_rfl : Tryz.f51.body.bind (strip 21 (fun _ => [])) = some A51) hn h
def A4 : ACode :=
  (.seq (.reg [] [⟨some 1, (.box 36 (.tmp 0)), 0, none⟩,
      ⟨some 2, (.assign (.const (.bool false))), 4, none⟩])
    (.seq (.seq (.reg [] [⟨some 18, (.load 36 (.tmp 1)), 36, none⟩,
      ⟨some 19, (.call ⟨(.value (.func 16)), #[(.tmp 18)], #[36]⟩), 4, none⟩])
    (.cond (.tmp 19)
    (.seq (.reg [] [⟨some 20, (.call ⟨(.value (.func 17)), #[], #[]⟩), 4, none⟩,
      ⟨some 2, (.assign (.tmp 20)), 4, none⟩])
    .ret)
    .skip))
    (.seq (.reg [] [⟨some 22, (.fieldAddr 36 (.tmp 1) 0), 0, none⟩,
      ⟨some 23, (.load 22 (.tmp 22)), 22, none⟩,
      ⟨some 24, (.fieldAddr 36 (.tmp 1) 1), 0, none⟩,
      ⟨some 25, (.load 23 (.tmp 24)), 23, none⟩,
      ⟨some 26, (.fieldAddr 36 (.tmp 1) 2), 0, none⟩,
      ⟨some 27, (.load 23 (.tmp 26)), 23, none⟩,
      ⟨some 28, (.call ⟨(.value (.func 18)), #[(.tmp 23), (.tmp 25), (.tmp 27)], #[22, 23, 23]⟩), 38, none⟩,
      ⟨some 21, (.move (.tmp 28)), 38, none⟩,
      ⟨some 29, (.extract (.tmp 21) 0), 23, none⟩,
      ⟨some 30, (.extract (.tmp 21) 1), 28, none⟩,
      ⟨some 3, (.assign (.tmp 29)), 23, none⟩,
      ⟨some 4, (.assign (.tmp 30)), 28, none⟩])
    (.seq (.reg [] [⟨some 32, (.fieldAddr 36 (.tmp 1) 0), 0, none⟩,
      ⟨some 33, (.load 22 (.tmp 32)), 22, none⟩,
      ⟨some 34, (.fieldAddr 36 (.tmp 1) 1), 0, none⟩,
      ⟨some 35, (.load 23 (.tmp 34)), 23, none⟩,
      ⟨some 36, (.fieldAddr 36 (.tmp 1) 2), 0, none⟩,
      ⟨some 37, (.load 23 (.tmp 36)), 23, none⟩,
      ⟨some 38, (.call ⟨(.value (.func 19)), #[(.tmp 33), (.tmp 35), (.tmp 37)], #[22, 23, 23]⟩), 38, none⟩,
      ⟨some 31, (.move (.tmp 38)), 38, none⟩,
      ⟨some 39, (.extract (.tmp 31) 0), 23, none⟩,
      ⟨some 40, (.extract (.tmp 31) 1), 28, none⟩,
      ⟨some 5, (.assign (.tmp 39)), 23, none⟩,
      ⟨some 6, (.assign (.tmp 40)), 28, none⟩])
    (.seq (.reg [] [⟨some 42, (.fieldAddr 36 (.tmp 1) 0), 0, none⟩,
      ⟨some 43, (.load 22 (.tmp 42)), 22, none⟩,
      ⟨some 44, (.fieldAddr 36 (.tmp 1) 1), 0, none⟩,
      ⟨some 45, (.load 23 (.tmp 44)), 23, none⟩,
      ⟨some 46, (.fieldAddr 36 (.tmp 1) 2), 0, none⟩,
      ⟨some 47, (.load 23 (.tmp 46)), 23, none⟩,
      ⟨some 48, (.call ⟨(.value (.func 20)), #[(.tmp 43), (.tmp 45), (.tmp 47)], #[22, 23, 23]⟩), 38, none⟩,
      ⟨some 41, (.move (.tmp 48)), 38, none⟩,
      ⟨some 49, (.extract (.tmp 41) 0), 23, none⟩,
      ⟨some 50, (.extract (.tmp 41) 1), 28, none⟩,
      ⟨some 7, (.assign (.tmp 49)), 23, none⟩,
      ⟨some 8, (.assign (.tmp 50)), 28, none⟩])
    (.seq (.reg [] [⟨some 52, (.fieldAddr 36 (.tmp 1) 0), 0, none⟩,
      ⟨some 53, (.load 22 (.tmp 52)), 22, none⟩,
      ⟨some 54, (.fieldAddr 36 (.tmp 1) 1), 0, none⟩,
      ⟨some 55, (.load 23 (.tmp 54)), 23, none⟩,
      ⟨some 56, (.fieldAddr 36 (.tmp 1) 2), 0, none⟩,
      ⟨some 57, (.load 23 (.tmp 56)), 23, none⟩,
      ⟨some 58, (.call ⟨(.value (.func 21)), #[(.tmp 53), (.tmp 55), (.tmp 57)], #[22, 23, 23]⟩), 38, none⟩,
      ⟨some 51, (.move (.tmp 58)), 38, none⟩,
      ⟨some 59, (.extract (.tmp 51) 0), 23, none⟩,
      ⟨some 60, (.extract (.tmp 51) 1), 28, none⟩,
      ⟨some 9, (.assign (.tmp 59)), 23, none⟩,
      ⟨some 10, (.assign (.tmp 60)), 28, none⟩])
    (.seq (.seq (.reg [] [⟨some 61, (.move (.tmp 3)), 23, none⟩,
      ⟨some 62, (.move (.tmp 5)), 23, none⟩,
      ⟨some 63, (.call ⟨(.value (.func 22)), #[(.tmp 61), (.tmp 62)], #[23, 23]⟩), 4, none⟩,
      ⟨some 64, (.unOp .not 4 (.tmp 63)), 4, none⟩,
      ⟨some 65, (.move (.tmp 64)), 4, none⟩,
      ⟨some 66, (.move (.tmp 4)), 28, some (65, false)⟩,
      ⟨some 67, (.move (.tmp 6)), 28, some (65, false)⟩,
      ⟨some 68, (.binOp .neq 28 (.tmp 66) (.tmp 67) 28), 4, some (65, false)⟩,
      ⟨some 69, (.pick (.tmp 65) (.const (.bool true)) (.tmp 68)), 4, none⟩,
      ⟨some 70, (.move (.tmp 69)), 4, none⟩,
      ⟨some 71, (.move (.tmp 7)), 23, some (70, false)⟩,
      ⟨some 72, (.move (.tmp 9)), 23, some (70, false)⟩,
      ⟨some 73, (.call ⟨(.value (.func 22)), #[(.tmp 71), (.tmp 72)], #[23, 23]⟩), 4, some (70, false)⟩,
      ⟨some 74, (.unOp .not 4 (.tmp 73)), 4, some (70, false)⟩,
      ⟨some 75, (.pick (.tmp 70) (.const (.bool true)) (.tmp 74)), 4, none⟩,
      ⟨some 76, (.move (.tmp 75)), 4, none⟩,
      ⟨some 77, (.move (.tmp 8)), 28, some (76, false)⟩,
      ⟨some 78, (.move (.tmp 10)), 28, some (76, false)⟩,
      ⟨some 79, (.binOp .neq 28 (.tmp 77) (.tmp 78) 28), 4, some (76, false)⟩,
      ⟨some 80, (.pick (.tmp 76) (.const (.bool true)) (.tmp 79)), 4, none⟩])
    (.cond (.tmp 80)
    (.seq (.reg [] [⟨some 2, (.assign (.const (.bool false))), 4, none⟩])
    .ret)
    .skip))
    (.seq (.seq (.reg [] [⟨some 11, (.assign (.const (.int .i64 0))), 3, none⟩])
    (.block 0 (.loop (.seq (.seq (.reg [] [⟨some 81, (.move (.tmp 11)), 3, none⟩,
      ⟨some 82, (.move (.tmp 7)), 23, none⟩,
      ⟨some 83, (.call ⟨(.builtin .len), #[(.tmp 82)], #[23]⟩), 3, none⟩,
      ⟨some 84, (.binOp .lss 3 (.tmp 81) (.tmp 83) 3), 4, none⟩])
    (.cond (.tmp 84)
    .skip
    (.exit 0)))
    (.seq (.block 1 (.seq (.draw [] [⟨some 88, (.fieldAddr 36 (.tmp 1) 2), 0, none⟩,
      ⟨some 89, (.load 23 (.tmp 88)), 23, none⟩,
      ⟨some 90, (.move (.tmp 7)), 23, none⟩,
      ⟨some 91, (.move (.tmp 11)), 3, none⟩,
      ⟨some 92, (.indexAddr 23 (.tmp 90) (.tmp 91)), 0, none⟩,
      ⟨some 93, (.load 3 (.tmp 92)), 3, none⟩,
      ⟨some 94, (.call ⟨(.value (.func 23)), #[(.tmp 89), (.tmp 93)], #[23, 3]⟩), 38, none⟩,
      ⟨some 87, (.move (.tmp 94)), 38, none⟩,
      ⟨some 95, (.extract (.tmp 87) 0), 23, none⟩,
      ⟨some 96, (.extract (.tmp 87) 1), 28, none⟩,
      ⟨some 12, (.assign (.tmp 95)), 23, none⟩,
      ⟨some 13, (.assign (.tmp 96)), 28, none⟩] [(0, 2), (1, 2), (0, 3), (1, 3), (2, 3), (0, 4), (1, 4), (0, 5), (1, 5), (8, 9), (9, 10)])
    (.seq (.reg [] [⟨some 98, (.fieldAddr 36 (.tmp 1) 0), 0, none⟩,
      ⟨some 99, (.load 22 (.tmp 98)), 22, none⟩,
      ⟨some 100, (.fieldAddr 36 (.tmp 1) 1), 0, none⟩,
      ⟨some 101, (.load 23 (.tmp 100)), 23, none⟩,
      ⟨some 102, (.move (.tmp 12)), 23, none⟩,
      ⟨some 103, (.call ⟨(.value (.func 24)), #[(.tmp 99), (.tmp 101), (.tmp 102)], #[22, 23, 23]⟩), 38, none⟩,
      ⟨some 97, (.move (.tmp 103)), 38, none⟩,
      ⟨some 104, (.extract (.tmp 97) 0), 23, none⟩,
      ⟨some 105, (.extract (.tmp 97) 1), 28, none⟩,
      ⟨some 14, (.assign (.tmp 104)), 23, none⟩,
      ⟨some 15, (.assign (.tmp 105)), 28, none⟩])
    (.seq (.reg [] [⟨some 107, (.fieldAddr 36 (.tmp 1) 0), 0, none⟩,
      ⟨some 108, (.load 22 (.tmp 107)), 22, none⟩,
      ⟨some 109, (.fieldAddr 36 (.tmp 1) 1), 0, none⟩,
      ⟨some 110, (.load 23 (.tmp 109)), 23, none⟩,
      ⟨some 111, (.fieldAddr 36 (.tmp 1) 2), 0, none⟩,
      ⟨some 112, (.load 23 (.tmp 111)), 23, none⟩,
      ⟨some 113, (.call ⟨(.value (.func 24)), #[(.tmp 108), (.tmp 110), (.tmp 112)], #[22, 23, 23]⟩), 38, none⟩,
      ⟨some 106, (.move (.tmp 113)), 38, none⟩,
      ⟨some 114, (.extract (.tmp 106) 0), 23, none⟩,
      ⟨some 115, (.extract (.tmp 106) 1), 28, none⟩,
      ⟨some 16, (.assign (.tmp 114)), 23, none⟩,
      ⟨some 17, (.assign (.tmp 115)), 28, none⟩])
    (.seq (.reg [] [⟨some 116, (.move (.tmp 13)), 28, none⟩,
      ⟨some 117, (.binOp .neq 28 (.tmp 116) (.const (.int .i64 0)) 28), 4, none⟩,
      ⟨some 118, (.move (.tmp 117)), 4, none⟩,
      ⟨some 119, (.move (.tmp 15)), 28, some (118, false)⟩,
      ⟨some 120, (.binOp .neq 28 (.tmp 119) (.const (.int .i64 0)) 28), 4, some (118, false)⟩,
      ⟨some 121, (.pick (.tmp 118) (.const (.bool true)) (.tmp 120)), 4, none⟩,
      ⟨some 122, (.move (.tmp 121)), 4, none⟩,
      ⟨some 123, (.move (.tmp 17)), 28, some (122, false)⟩,
      ⟨some 124, (.binOp .neq 28 (.tmp 123) (.const (.int .i64 0)) 28), 4, some (122, false)⟩,
      ⟨some 125, (.pick (.tmp 122) (.const (.bool true)) (.tmp 124)), 4, none⟩,
      ⟨some 126, (.move (.tmp 125)), 4, none⟩,
      ⟨some 127, (.move (.tmp 14)), 23, some (126, false)⟩,
      ⟨some 128, (.move (.tmp 16)), 23, some (126, false)⟩,
      ⟨some 129, (.call ⟨(.value (.func 22)), #[(.tmp 127), (.tmp 128)], #[23, 23]⟩), 4, some (126, false)⟩,
      ⟨some 130, (.unOp .not 4 (.tmp 129)), 4, some (126, false)⟩,
      ⟨some 131, (.pick (.tmp 126) (.const (.bool true)) (.tmp 130)), 4, none⟩])
    (.cond (.tmp 131)
    (.seq (.reg [] [⟨some 2, (.assign (.const (.bool false))), 4, none⟩])
    .ret)
    .skip))))))
    (.reg [] [⟨some 85, (.move (.tmp 11)), 3, none⟩,
      ⟨some 86, (.binOp .add 3 (.tmp 85) (.const (.int .i64 1)) 3), 3, none⟩,
      ⟨some 11, (.assign (.tmp 86)), 3, none⟩]))))))
    (.seq (.reg [] [⟨some 132, (.call ⟨(.value (.func 17)), #[], #[]⟩), 4, none⟩,
      ⟨some 2, (.assign (.tmp 132)), 4, none⟩])
    .ret)))))))))
theorem C4 {args : List AV} {r : AV} (hn : args.length ≤ 133) (h : vc Tryz.prog T [] A4 (Fin T [(.tmp 2)] r) ⟨envOf 0 args, []⟩) : CallP Tryz.prog 4 args r :=
  callP_of tok mixed Tryz.func4 (by kernel_rfl) (by kernel_rfl) (by kernel_rfl : Tryz.f4.ntmps = 133) (by kernel_rfl : Tryz.f4.body.bind (strip 133 (fun _ => [])) = some A4) hn h

end Go.Proofs.YtkhddecnllcaiaaGreat
end

section
/- Contracts: all orders of the grounds. -/
namespace Go.Proofs.YtkhddecnllcaiaaGreat
open Go.Abs Go
set_option maxRecDepth 20000
set_option maxHeartbeats 2000000
attribute [local irreducible] PreK CondK CallK CallG CallX LoopK
attribute [local simp] avsEq avEq akind teq vkind vEq

end Go.Proofs.YtkhddecnllcaiaaGreat
end

section
/- Plain: four grounds that are right are one of the orders. -/
namespace Go.Proofs.YtkhddecnllcaiaaGreat
open Go.Abs Go

end Go.Proofs.YtkhddecnllcaiaaGreat
end

section
/- Plain: a search in the order of distance; what it finds does not hang on the order of the steps. -/
namespace Go.Proofs.YtkhddecnllcaiaaGreat
open Go.Abs Go

abbrev Word := List Int
/-- A word and how many steps it is away. -/
abbrev WN := Word × Nat
/-- The words of a list that are not there yet, put at the end; none if there would be more than 300. -/
def addF (d : Nat) : List WN → List Word → Option (List WN)
  | ws, [] => some ws
  | ws, v :: l => if v ∈ ws.map (·.1) then addF d ws l else if ws.length = 300 then none else addF d (ws ++ [(v, d)]) l
/-- What is reached by so many steps. -/
inductive ReachN (nx : Word → List Word) (w : Word) : Nat → Word → Prop
  | zero : ReachN nx w 0 w
  | succ {n : Nat} {v x : Word} (h : ReachN nx w n v) (hx : x ∈ nx v) : ReachN nx w (n + 1) x
theorem ReachN.congr {nx nx' : Word → List Word} (he : ∀ v x, x ∈ nx v ↔ x ∈ nx' v) {w x : Word} {n : Nat} (h : ReachN nx w n x) : ReachN nx' w n x := by
  induction h with
  | zero => exact .zero
  | succ h hx ih => exact .succ ih ((he _ _).1 hx)
theorem ReachN.trans {nx : Word → List Word} {u v x : Word} {n m : Nat} (h : ReachN nx u n v) (k : ReachN nx v m x) : ReachN nx u (n + m) x := by
  induction k with
  | zero => exact h
  | succ k hx ih => exact .succ ih hx

theorem addF_some {d : Nat} : ∀ {l : List Word} {ws ws' : List WN}, addF d ws l = some ws' → (ws.map (·.1)).Nodup → ws.length ≤ 300 →
    (∃ new, ws' = ws ++ new ∧ ∀ y ∈ new, y.2 = d ∧ y.1 ∈ l) ∧ (ws'.map (·.1)).Nodup ∧ ws'.length ≤ 300 ∧ ∀ x ∈ l, x ∈ ws'.map (·.1)
  | [], ws, ws', h, hn, hl => by
    simp only [addF, Option.some.injEq] at h
    subst h
    exact ⟨⟨[], by simp, by simp⟩, hn, hl, by simp⟩
  | v :: l, ws, ws', h, hn, hl => by
    rw [addF] at h
    split at h
    · rename_i hm
      obtain ⟨⟨new, h1, h2⟩, h3, h4, h5⟩ := addF_some h hn hl
      refine ⟨⟨new, h1, fun y hy => ⟨(h2 y hy).1, by simp [(h2 y hy).2]⟩⟩, h3, h4, fun x hx => ?_⟩
      rcases List.mem_cons.1 hx with rfl | hx
      · rw [h1, List.map_append, List.mem_append]; exact .inl hm
      · exact h5 x hx
    · rename_i hm
      split at h
      · cases h
      · rename_i h300
        have hn' : ((ws ++ [(v, d)]).map (·.1)).Nodup := by
          rw [List.map_append, List.nodup_append]
          refine ⟨hn, by simp, fun a ha b hb => ?_⟩
          simp only [List.map_cons, List.map_nil, List.mem_singleton] at hb
          intro e
          exact hm (by rw [← hb, ← e]; exact ha)
        obtain ⟨⟨new, h1, h2⟩, h3, h4, h5⟩ := addF_some h hn' (by simp; omega)
        refine ⟨⟨(v, d) :: new, by rw [h1]; simp, fun y hy => ?_⟩, h3, h4, fun x hx => ?_⟩
        · rcases List.mem_cons.1 hy with rfl | hy
          · exact ⟨rfl, by simp⟩
          · exact ⟨(h2 y hy).1, by simp [(h2 y hy).2]⟩
        · rcases List.mem_cons.1 hx with rfl | hx
          · rw [h1]; simp
          · exact h5 x hx
structure Found (nx : Word → List Word) (w : Word) (i : Nat) (ws : List WN) : Prop where
  nodup : (ws.map (·.1)).Nodup
  len : ws.length ≤ 300
  first : ∃ l, ws = (w, 0) :: l
  reach : ∀ y ∈ ws, ReachN nx w y.2 y.1
  mono : ws.Pairwise fun a b => a.2 ≤ b.2
  near : i < ws.length → ∀ y ∈ ws, y.2 ≤ (el ws i).2 + 1
  closed : ∀ y ∈ ws.take i, ∀ x ∈ nx y.1, ∃ z ∈ ws, z.1 = x ∧ z.2 ≤ y.2 + 1
theorem pairwise_el {ws : List WN} (h : ws.Pairwise fun a b => a.2 ≤ b.2) {i j : Nat} (hij : i ≤ j) (hj : j < ws.length) : (el ws i).2 ≤ (el ws j).2 := by
  rw [el_eq _ _ hj, el_eq _ _ (by omega : i < ws.length)]
  by_cases e : i = j
  · subst e; exact Nat.le_refl _
  · exact List.pairwise_iff_getElem.1 h i j (by omega) hj (by omega)
theorem Found.step {nx : Word → List Word} {w : Word} {i : Nat} {ws ws' : List WN} (h : Found nx w i ws) (hi : i < ws.length) (ha : addF ((el ws i).2 + 1) ws (nx (el ws i).1) = some ws') : Found nx w (i + 1) ws' := by
  obtain ⟨⟨new, rfl, h2⟩, h3, h4, h5⟩ := addF_some ha h.nodup h.len
  have hmi := el_mem_of ws i hi
  have hup : ∀ y ∈ ws ++ new, y.2 ≤ (el ws i).2 + 1 := by
    intro y hy
    rcases List.mem_append.1 hy with hy | hy
    · exact h.near hi y hy
    · exact Nat.le_of_eq (h2 y hy).1
  have hmono : (ws ++ new).Pairwise fun a b => a.2 ≤ b.2 := by
    rw [List.pairwise_append]
    refine ⟨h.mono, ?_, fun a ha b hb => ?_⟩
    · rw [List.pairwise_iff_getElem]
      intro a b h6 h7 _
      rw [(h2 _ (List.getElem_mem h6)).1, (h2 _ (List.getElem_mem h7)).1]
      exact Nat.le_refl _
    · rw [(h2 b hb).1]
      exact h.near hi a ha
  refine ⟨h3, h4, ?_, fun y hy => ?_, hmono, fun hl y hy => ?_, fun y hy x hx => ?_⟩
  · obtain ⟨l, rfl⟩ := h.first; exact ⟨l ++ new, rfl⟩
  · rcases List.mem_append.1 hy with hy | hy
    · exact h.reach y hy
    · rw [(h2 y hy).1]
      exact .succ (h.reach _ hmi) (h2 y hy).2
  · have h6 := pairwise_el hmono (i := i) (j := i + 1) (by omega) hl
    have h7 : el (ws ++ new) i = el ws i := by
      unfold el; rw [List.getD_eq_getElem?_getD, List.getD_eq_getElem?_getD, List.getElem?_append_left hi]
    rw [h7] at h6
    have := hup y hy
    omega
  · rw [List.take_append_of_le_length (by omega), take_succ ws i hi, List.mem_append] at hy
    rcases hy with hy | hy
    · obtain ⟨z, hz, h6, h7⟩ := h.closed y hy x hx
      exact ⟨z, List.mem_append.2 (.inl hz), h6, h7⟩
    · simp only [List.mem_singleton] at hy
      subst hy
      have := h5 x hx
      obtain ⟨z, hz, e⟩ := List.mem_map.1 this
      exact ⟨z, hz, e, hup z hz⟩
/-- What a search has found: each word that is reached, once, with its distance. -/
structure Closed (nx : Word → List Word) (w : Word) (ws : List WN) : Prop where
  nodup : (ws.map (·.1)).Nodup
  len : ws.length ≤ 300
  first : ∃ l, ws = (w, 0) :: l
  reach : ∀ y ∈ ws, ReachN nx w y.2 y.1
  all : ∀ n x, ReachN nx w n x → ∃ z ∈ ws, z.1 = x ∧ z.2 ≤ n
theorem Found.end {nx : Word → List Word} {w : Word} {i : Nat} {ws : List WN} (h : Found nx w i ws) (hi : ws.length ≤ i) : Closed nx w ws := by
  refine ⟨h.nodup, h.len, h.first, h.reach, fun n x hr => ?_⟩
  have ht : ws.take i = ws := List.take_of_length_le hi
  have hc := h.closed
  rw [ht] at hc
  induction hr with
  | zero => obtain ⟨l, rfl⟩ := h.first; exact ⟨(w, 0), by simp, rfl, Nat.le_refl _⟩
  | succ hr hx ih =>
    obtain ⟨z, hz, rfl, h1⟩ := ih
    obtain ⟨y, hy, h2, h3⟩ := hc z hz _ hx
    exact ⟨y, hy, h2, by omega⟩
end Go.Proofs.YtkhddecnllcaiaaGreat
end

section
/- Plain: the keys of words, and a map from words to their places. -/
namespace Go.Proofs.YtkhddecnllcaiaaGreat
open Go.Abs Go

/-- The key of a word. -/
def keyS (w : List Int) : ByteArray := strOf (w.map fun x => 48 + x)
@[simp] def keyV (w : List Int) : AV := .raw (.string (keyS w))
/-- A word of sounds. -/
def fine (w : List Int) : Prop := ∀ x ∈ w, 0 ≤ x ∧ x ≤ 5
/-- The entries of the words' places. -/
def entsF (k : Nat) : List Word → List AV
  | [] => []
  | w :: l => .tup [keyV w, iv k] :: entsF (k + 1) l
end Go.Proofs.YtkhddecnllcaiaaGreat
end

section
/- Functions of the cut as the value layer reads them. (written by gen.py) -/
set_option maxRecDepth 20000
namespace Go.Proofs.YtkhddecnllcaiaaGreat
open Go.Abs Go

end Go.Proofs.YtkhddecnllcaiaaGreat
end

section
/- Plain: weights that hold bound derivations; the smallest weights are small. -/
namespace Go.Proofs.YtkhddecnllcaiaaGreat
open Go.Abs Go

/-- The weight of sounds. -/
def weighM (o : List Int) : List Int → Int
  | [] => 0
  | x :: w => el o x.toNat + weighM o w
theorem el_set (o : List Int) (i k : Nat) (v : Int) (hi : i < o.length) : el (o.set i v) k = if i = k then v else el o k := by
  unfold el
  rw [List.getD_eq_getElem?_getD, List.getD_eq_getElem?_getD, List.getElem?_set]
  by_cases h : i = k
  · subst h; simp [hi]
  · simp [h]
theorem weighM_mono {o o' : List Int} (h : ∀ k, el o k ≤ el o' k) : ∀ w : List Int, weighM o w ≤ weighM o' w
  | [] => by simp [weighM]
  | x :: w => by
    have := h x.toNat
    have := weighM_mono h w
    simp only [weighM]; omega
structure Kept (s : List Rule) (o : List Int) : Prop where
  len : o.length = 6
  pos : ∀ k, 0 ≤ el o k
  sup : ∀ k, el o k = 0 ∨ ∃ r ∈ s, r.frm = k ∧ el o k ≤ weighM o r.to + 1
theorem Kept.put {s : List Rule} {o : List Int} (h : Kept s o) {r : Rule} (hr : r ∈ s) (h0 : 0 ≤ r.frm) (h5 : r.frm ≤ 5) (hlt : el o r.frm.toNat < weighM o r.to + 1) :
    Kept s (o.set r.frm.toNat (weighM o r.to + 1)) := by
  have hi : r.frm.toNat < o.length := by rw [h.len]; omega
  have hle : ∀ k, el o k ≤ el (o.set r.frm.toNat (weighM o r.to + 1)) k := by
    intro k
    rw [el_set _ _ _ _ hi]
    split
    · rename_i e; subst e; omega
    · exact Int.le_refl _
  refine ⟨by rw [List.length_set]; exact h.len, fun k => Int.le_trans (h.pos k) (hle k), fun k => ?_⟩
  by_cases e : r.frm.toNat = k
  · refine .inr ⟨r, hr, by omega, ?_⟩
    rw [el_set _ _ _ _ hi, if_pos e]
    have := weighM_mono hle r.to
    omega
  · rw [el_set _ _ _ _ hi, if_neg e]
    rcases h.sup k with h1 | ⟨q, hq, h2, h3⟩
    · exact .inl h1
    · have := weighM_mono hle q.to
      exact .inr ⟨q, hq, h2, by omega⟩
/-- How many weights are below one. -/
def under (o : List Int) (v : Int) : Nat := o.countP fun x => decide (x < v)
end Go.Proofs.YtkhddecnllcaiaaGreat
end

section
/- Plain: raising weights in seven rounds, or as long as they are small: the same. -/
namespace Go.Proofs.YtkhddecnllcaiaaGreat
open Go.Abs Go

def leW (o o' : List Int) : Prop := ∀ k, el o k ≤ el o' k
theorem leW.trans {a b c : List Int} (h : leW a b) (k : leW b c) : leW a c := fun i => Int.le_trans (h i) (k i)
theorem leW.refl (a : List Int) : leW a a := fun _ => Int.le_refl _
end Go.Proofs.YtkhddecnllcaiaaGreat
end

section
/- Contracts: weights, and the statement OrderWeighs. -/
namespace Go.Proofs.YtkhddecnllcaiaaGreat
open Go.Abs Go
set_option maxRecDepth 20000
set_option maxHeartbeats 2000000
attribute [local irreducible] PreK CondK CallK CallG CallX LoopK
attribute [local simp] avsEq avEq akind teq vkind vEq

end Go.Proofs.YtkhddecnllcaiaaGreat
end

section
/- Plain: the words that a word reaches, with the step to each. -/
namespace Go.Proofs.YtkhddecnllcaiaaGreat
open Go.Abs Go

/-- Words, and whence and by which step each was found first. -/
structure Gr where
  ws : List Word
  frm : List Int
  stp : List Step
/-- What holds of it all the time. -/
structure Gr.ok (g : Gr) : Prop where
  fine : ∀ x ∈ g.ws, wordErr x = 0
  num : g.ws.length ≤ 300
  frm : g.frm.length = g.ws.length
  stp : g.stp.length = g.ws.length
  some : 0 < g.ws.length
theorem Gr.ok.push {g : Gr} (h : g.ok) {w : Word} {f : Int} {x : Step} (hw : wordErr w = 0) (hn : g.ws.length ≠ 300) : Gr.ok ⟨g.ws ++ [w], g.frm ++ [f], g.stp ++ [x]⟩ := by
  have h1 := h.num
  refine ⟨fun y hy => ?_, by simp; omega, by simp [h.frm], by simp [h.stp], by simp⟩
  rcases List.mem_append.1 hy with hy | hy
  · exact h.fine y hy
  · simp only [List.mem_singleton] at hy
    subst hy; exact hw
end Go.Proofs.YtkhddecnllcaiaaGreat
end

section
/- Functions of the cut as the value layer reads them. (written by gen.py) -/
set_option maxRecDepth 20000
namespace Go.Proofs.YtkhddecnllcaiaaGreat
open Go.Abs Go

end Go.Proofs.YtkhddecnllcaiaaGreat
end

section
/- Contracts: keys of words. -/
namespace Go.Proofs.YtkhddecnllcaiaaGreat
open Go.Abs Go
set_option maxRecDepth 20000
set_option maxHeartbeats 2000000
attribute [local irreducible] PreK CondK CallK CallG CallX LoopK
attribute [local simp] avsEq avEq akind teq vkind vEq
attribute [simp] T_9 T_12 T_13 T_21 T_114 T_187 T_48 T_57 T_59 T_60 T_52 T_53 T_88 T_89 T_119 T_137 T_145 T_147 T_171 T_175 T_192 T_214

end Go.Proofs.YtkhddecnllcaiaaGreat
end

section
/- PURSE -/
/- Contracts: what a word reaches. -/
namespace Go.Proofs.YtkhddecnllcaiaaGreat
open Go.Abs Go
set_option maxRecDepth 20000
set_option maxHeartbeats 8000000
attribute [local irreducible] PreK CondK CallK CallG CallX LoopK
attribute [local simp] avsEq avEq akind teq vkind vEq

def boxT (s : List Rule) (g : Gr) : List (Nat × Option Box) := [(23, some ⟨5, [.agg [rulesV s, .seq 1 (g.ws.map ints) true, .mp 15 1, .seq 1 (g.frm.map iv) true, .seq 2 (g.stp.map stepV) true]], 1, true⟩), (15, some ⟨0, entsF 0 g.ws, 1, false⟩)]
def boxF (s : List Rule) (g : Gr) (v : Nat) : List (Nat × Option Box) := [(23, some ⟨5, [.agg [rulesV s, .sl 87 v 0 g.ws.length, .mp 15 1, .sl 94 v 0 g.frm.length, .sl 102 v 0 g.stp.length]], 1, true⟩), (15, some ⟨0, entsF 0 g.ws, 1, false⟩), (87, some ⟨1, g.ws.map ints, v, false⟩), (94, some ⟨1, g.frm.map iv, v, false⟩), (102, some ⟨2, g.stp.map stepV, v, false⟩)]
attribute [local simp] boxT boxF entsF
end Go.Proofs.YtkhddecnllcaiaaGreat
end

section
/- The library's sort of words, over a lent box. -/
namespace Go.Proofs.YtkhddecnllcaiaaGreat
open Go.Abs Go

/-! ### the library's sort -/
section
open Go.Sort Go.Shelf
variable {P : Program} {ρ : Ren}

/-- A word and the value that reads so. -/
abbrev Cell (w : World) (Y : Nat → Prop) := { p : List Int × Value // Rep w Y Mu.none (ints p.1) p.2 }
instance {w : World} {Y : Nat → Prop} : Inhabited (Cell w Y) := ⟨⟨([], .slice none 0 0), .nil⟩⟩
theorem sortWorld_other {α : Type} [Inhabited α] {enc : α → Value} {w : World} {blk off m : Nat} {dk : Array α} {os : Array Obj} {b : Nat} (hb : b < w.heap.size) (hne : b ≠ blk) : (Go.Proofs.sortWorld enc w blk off m dk os).heap[b]? = w.heap[b]? := by
  unfold Go.Proofs.sortWorld Go.Sort.grow Go.Sort.putRow Go.Sort.mapBlock Go.Sort.ahead
  simp only
  rw [Array.getElem?_append_left (by simpa using hb), Array.getElem?_modify, if_neg (Ne.symm hne)]
theorem sortWorld_at {α : Type} [Inhabited α] {enc : α → Value} {w : World} {blk off m : Nat} {dk : Array α} {os : Array Obj} {c : Array Value} {e : TypeId} {fr : Nat × Nat} (hb : w.heap[blk]? = some (.cells c e fr)) : (Go.Proofs.sortWorld enc w blk off m dk os).heap[blk]? = some (.cells (Go.Sort.putCells enc off dk c) e fr) := by
  have hlt := lt_of_heap hb
  unfold Go.Proofs.sortWorld Go.Sort.grow Go.Sort.putRow Go.Sort.mapBlock Go.Sort.ahead
  simp only
  rw [Array.getElem?_append_left (by simpa using hlt), Array.getElem?_modify, if_pos rfl, hb]
  rfl
theorem sortWorld_size {α : Type} [Inhabited α] {enc : α → Value} {w : World} {blk off m : Nat} {dk : Array α} {os : Array Obj} : w.heap.size ≤ (Go.Proofs.sortWorld enc w blk off m dk os).heap.size := by
  unfold Go.Proofs.sortWorld Go.Sort.grow Go.Sort.putRow Go.Sort.mapBlock Go.Sort.ahead
  simp
theorem putCells_getD {α : Type} [Inhabited α] {enc : α → Value} {off : Nat} {d : Array α} {c : Array Value} {k : Nat} (hk : k < c.size) : (Go.Sort.putCells enc off d c).getD k undef = if off ≤ k ∧ k < off + d.size then enc d[k - off]! else c.getD k undef := by
  unfold Go.Sort.putCells
  simp [Array.getD, hk]
end
end Go.Proofs.YtkhddecnllcaiaaGreat
end

section
/- The library's sort of words at this program: where its functions and types stand (written by the kit's tool lay-plain), and its contract. -/
namespace Go.Proofs.YtkhddecnllcaiaaGreat
open Go.Abs Go Go.Shelf
end Go.Proofs.YtkhddecnllcaiaaGreat
end

section
/- Contracts: comparing and sorting words. -/
namespace Go.Proofs.YtkhddecnllcaiaaGreat
open Go.Abs Go
set_option maxRecDepth 20000
set_option maxHeartbeats 2000000
attribute [local irreducible] PreK CondK CallK CallG CallX LoopK
attribute [local simp] avsEq avEq akind teq vkind vEq

end Go.Proofs.YtkhddecnllcaiaaGreat
end

section
/- Contracts: equal neighbours left out, and the sort of words. -/
namespace Go.Proofs.YtkhddecnllcaiaaGreat
open Go.Abs Go
set_option maxRecDepth 20000
set_option maxHeartbeats 2000000
attribute [local irreducible] PreK CondK CallK CallG CallX LoopK
attribute [local simp] avsEq avEq akind teq vkind vEq

end Go.Proofs.YtkhddecnllcaiaaGreat
end

section
/- Contracts: the sorted list of words. -/
namespace Go.Proofs.YtkhddecnllcaiaaGreat
open Go.Abs Go
set_option maxRecDepth 20000
set_option maxHeartbeats 2000000
attribute [local irreducible] PreK CondK CallK CallG CallX LoopK
attribute [local simp] avsEq avEq akind teq vkind vEq

end Go.Proofs.YtkhddecnllcaiaaGreat
end

section
/- Contracts: feed's Reach, Ends, Next. -/
namespace Go.Proofs.YtkhddecnllcaiaaGreat
open Go.Abs Go
set_option maxRecDepth 20000
set_option maxHeartbeats 2000000
attribute [local irreducible] PreK CondK CallK CallG CallX LoopK
attribute [local simp] avsEq avEq akind teq vkind vEq

end Go.Proofs.YtkhddecnllcaiaaGreat
end

section
/- Plain: words put in order one by one, and sorted all at once, are the same. -/
namespace Go.Proofs.YtkhddecnllcaiaaGreat
open Go.Abs Go

end Go.Proofs.YtkhddecnllcaiaaGreat
end

section
/- Contracts: lists of words in order; Bases on both sides, and the statement OrderBases. -/
namespace Go.Proofs.YtkhddecnllcaiaaGreat
open Go.Abs Go
set_option maxRecDepth 20000
set_option maxHeartbeats 2000000
attribute [local irreducible] PreK CondK CallK CallG CallX LoopK
attribute [local simp] avsEq avEq akind teq vkind vEq

end Go.Proofs.YtkhddecnllcaiaaGreat
end

section
/- Contracts: Bases on both sides, and the statement OrderBases. -/
namespace Go.Proofs.YtkhddecnllcaiaaGreat
open Go.Abs Go
attribute [local simp] avsEq avEq akind teq vkind vEq

end Go.Proofs.YtkhddecnllcaiaaGreat
end

section
/- PURSE -/
/- Contracts: the document's Bases: a queue of words. -/
namespace Go.Proofs.YtkhddecnllcaiaaGreat
open Go.Abs Go
attribute [local simp] avsEq avEq akind teq vkind vEq

theorem todoN_num (snd len : Nat) : ∀ q : List (List Int), q.length ≤ todoN snd len q
  | [] => by simp [todoN]
  | w :: q => by
    have ih := todoN_num snd len q
    have : 1 ≤ treeN snd (len - w.length) := by
      cases len - w.length with
      | zero => simp [treeN]
      | succ d => simp only [treeN]; omega
    simp only [todoN, List.length_cons]
    omega
theorem putL_num (l : List (List Int)) (w : List Int) : (putL l w).length ≤ l.length + 1 := by
  have h : ∀ l : List (List Int), (insW w l).length = l.length + 1 := by
    intro l
    induction l with
    | nil => rfl
    | cons x l ih =>
      rw [insW]
      split
      · simp
      · simp [ih]
  unfold putL
  split
  · omega
  · rw [h]; omega
/-- A queue at a place: what is still to be visited. -/
structure Queue (snd len : Nat) (p : List Int → Bool) (R : List (List Int)) (i : Nat) (ws out : List (List Int)) : Prop where
  todo : todoN snd len (ws.drop i) + i ≤ 121
  here : i ≤ ws.length
  num : out.length ≤ i
  small : ∀ x ∈ ws, x.length ≤ len
  osmall : ∀ x ∈ out, x.length ≤ len
  rest : putsL p out (visitM snd len (121 - i) (ws.drop i)) = R
theorem Queue.len {snd len : Nat} {p : List Int → Bool} {R : List (List Int)} {i : Nat} {ws out : List (List Int)} (h : Queue snd len p R i ws out) : ws.length ≤ 121 := by
  have h1 := h.todo
  have h2 := todoN_num snd len (ws.drop i)
  have h3 := h.here
  simp at h2
  omega
theorem Queue.done {snd len : Nat} {p : List Int → Bool} {R : List (List Int)} {i : Nat} {ws out : List (List Int)} (h : Queue snd len p R i ws out) (hi : ws.length ≤ i) : out = R := by
  have := h.rest
  rw [List.drop_eq_nil_of_le hi] at this
  cases h0 : 121 - i with
  | zero => rw [h0] at this; simpa [visitM, putsL] using this
  | succ k => rw [h0] at this; simpa [visitM, putsL] using this
theorem Queue.step {snd len : Nat} {p : List Int → Bool} {R : List (List Int)} {i : Nat} {ws out : List (List Int)} (h : Queue snd len p R i ws out) (hi : i < ws.length) :
    Queue snd len p R (i + 1) (ws ++ if (el ws i).length < len then kidF (el ws i) 0 snd else []) (if p (el ws i) then putL out (el ws i) else out) := by
  have h1 := h.todo
  have h6 := h.rest
  rw [drop_cons ws i hi] at h1 h6
  have h2 := todoN_step snd len (el ws i) (ws.drop (i + 1))
  have hm := el_mem_of ws i hi
  have e : (ws ++ if (el ws i).length < len then kidF (el ws i) 0 snd else []).drop (i + 1) = ws.drop (i + 1) ++ if (el ws i).length < len then kidsM snd (el ws i) else [] := by
    rw [List.drop_append_of_le_length (by omega), kidF_all]
  obtain ⟨k, hk⟩ : ∃ k, 121 - i = k + 1 := ⟨120 - i, by omega⟩
  rw [hk, visitM, putsL] at h6
  refine ⟨by rw [e]; omega, by simp; omega, ?_, fun x hx => ?_, fun x hx => ?_, by rw [e, show 121 - (i + 1) = k by omega]; exact h6⟩
  · have := h.num
    split
    · have := putL_num out (el ws i); omega
    · omega
  · rcases List.mem_append.1 hx with hx | hx
    · exact h.small x hx
    · split at hx
      · rw [kidF_all] at hx
        simp only [kidsM, List.mem_map] at hx
        obtain ⟨_, _, rfl⟩ := hx
        simp; omega
      · cases hx
  · split at hx
    · rcases mem_putL.1 hx with rfl | hx
      · exact h.small _ hm
      · exact h.osmall x hx
    · exact h.osmall x hx
end Go.Proofs.YtkhddecnllcaiaaGreat
end

section
/- The statement OrderBases as a contract. -/
namespace Go.Proofs.YtkhddecnllcaiaaGreat
open Go.Abs Go
attribute [local simp] avsEq avEq akind teq vkind vEq

@[simp] def sizeV (p : Int × Int) : AV := .agg [iv p.1, iv p.2]
end Go.Proofs.YtkhddecnllcaiaaGreat
end

section
/- Plain: the forms by all orders. -/
namespace Go.Proofs.YtkhddecnllcaiaaGreat
open Go.Abs Go

theorem dups_nodup : ∀ {r seen : List Int}, dups seen r = false → r.Nodup ∧ ∀ x ∈ r, x ∉ seen
  | [], seen, _ => ⟨List.nodup_nil, fun x hx => by cases hx⟩
  | y :: r, seen, h => by
    simp only [dups, Bool.or_eq_false_iff] at h
    obtain ⟨h1, h2⟩ := dups_nodup h.2
    have hy : y ∉ seen := by simpa using h.1
    refine ⟨List.nodup_cons.2 ⟨fun hm => h2 y hm (by simp), h1⟩, fun x hx => ?_⟩
    rcases List.mem_cons.1 hx with rfl | hx
    · exact hy
    · exact fun hm => h2 x hx (by simp [hm])
end Go.Proofs.YtkhddecnllcaiaaGreat
end

section
/- Contracts: the forms by all orders; the statement OrderForms. -/
namespace Go.Proofs.YtkhddecnllcaiaaGreat
open Go.Abs Go
set_option maxRecDepth 20000
set_option maxHeartbeats 2000000
attribute [local irreducible] PreK CondK CallK CallG CallX LoopK
attribute [local simp] avsEq avEq akind teq vkind vEq

end Go.Proofs.YtkhddecnllcaiaaGreat
end

section
/- The library's sort of numbers, over a lent box. -/
namespace Go.Proofs.YtkhddecnllcaiaaGreat
open Go.Abs Go

def sortI (l : List Int) : List Int := l.mergeSort fun x y => decide (x ≤ y)
theorem sortI_perm (l : List Int) : (sortI l).Perm l := List.mergeSort_perm _ _
theorem sortI_len (l : List Int) : (sortI l).length = l.length := (sortI_perm l).length_eq
theorem sortI_sorted (l : List Int) : (sortI l).Pairwise fun x y => x ≤ y := by
  have := List.pairwise_mergeSort (le := fun x y : Int => decide (x ≤ y)) (fun a b c h1 h2 => by simp at h1 h2 ⊢; omega) (fun a b => by simp; omega) l
  simpa [sortI] using this
theorem sortI_eq {l m : List Int} (hp : l.Perm m) (hs : m.Pairwise fun x y => x ≤ y) : sortI l = m := by
  refine List.Perm.eq_of_pairwise (le := fun x y : Int => x ≤ y) (fun a b _ _ h1 h2 => by omega) (sortI_sorted l) hs ((sortI_perm l).trans hp)
section
open Go.Shelf
variable {P : Program} {ρ : Ren}
theorem callL_sortI (L : Lays.n189 P ρ) (d : List Int) : CallL P (ρ.f 189) [] 1 (d.map iv) [] (.val (.tup [])) ((sortI d).map iv) := by
  have hsl := sortI_len d
  refine ⟨?_, fun w X l vs hv hsz hX hXl hh hlen hargs => ?_⟩
  · exact ⟨_, L.f189, by simp [Body.n189], by simp [Body.n189]⟩
  obtain ⟨v0, rfl⟩ : ∃ v0, vs = #[v0] := by
    cases vs with
    | mk l =>
      match l, hlen with
      | [a], _ => exact ⟨a, rfl⟩
  have h0 : Rep w (Yof X (mu1 l)) (mu1 l) (.sl lid 0 0 (d.map iv).length) v0 := hargs 0 (by simp)
  generalize hn : (d.map iv).length = n at h0
  simp only [List.length_map] at hn
  cases h0 with
  | slOld hm hv' =>
    simp only [mu1, if_true, Option.some.injEq] at hm
    subst hm
    omega
  | slNil hm hv' =>
    obtain rfl : d = [] := List.eq_nil_of_length_eq_zero hn
    refine (Any.slices_Sort_int_none L _ 0 w).mono fun e w' ⟨he, hw⟩ => ?_
    subst hw
    exact ⟨_, he, Ext.refl _ _, by simpa [sortI] using hh, .tup rfl fun i hi => absurd hi (by simp)⟩
  | @sl _ _ _ _ _ cap loc g0 n0 hm hv' hb hc hfit hz =>
    simp only [mu1, if_true, Option.some.injEq] at hm
    subst hm
    subst hn
    obtain ⟨hbig, hh⟩ := hh
    rw [hb] at hh
    obtain ⟨c, el, hheap, hcs, hlen', hone, hrep⟩ := hh.1 (by simp)
    rw [hsz] at hfit
    simp only [Nat.zero_mul, Nat.add_zero, Nat.zero_add, Nat.mul_one, List.length_map, hsz] at hfit hlen' ⊢
    have hcell : ∀ i, i < d.length → c.getD (l.base + i) undef = .int .i64 (d[i]!) := by
      intro i hi
      have := (hrep i (by simpa using hi)).2
      simp only [List.getD_eq_getElem?_getD, List.getElem?_map, List.getElem?_eq_getElem hi, Option.map_some, Option.getD_some, Nat.mul_one, if_false, Bool.false_eq_true, elemVal] at this
      rw [getElem!_pos d i hi]
      exact this.one.1
    refine (Any.slices_Sort_int L g0 l.base cap d w (fun j hj => ?_) (lt_of_heap hheap) (by simp only [List.length_map, big] at hbig; omega)).mono fun e w' ⟨he, n, os, hw⟩ => ?_
    · have hj' : j < d.length := by simpa using hj
      have hlt : l.base + j < c.size := by omega
      have h3 := hcell j hj'
      refine ⟨?_, ?_⟩
      · unfold World.cell?
        simp only [hheap]
        simp only [Array.getD_eq_getD_getElem?, Array.getElem?_eq_getElem hlt, Option.getD_some] at h3
        simp [hlt, h3, hj']
      · unfold World.frozen?
        simp [hheap]
    · have hw2 : w' = Go.Proofs.sortWorld (Value.int .i64) w g0 l.base n (sortI d).toArray os := hw
      subst hw2
      refine ⟨_, he, ⟨⟨rfl, Nat.le_add_right _ _⟩, rfl, rfl, sortWorld_size, fun b hlt hno => sortWorld_other hlt ?_⟩, ⟨by simpa [hsl] using hbig, ?_⟩, .tup rfl fun i hi => absurd hi (by simp)⟩
      · rintro rfl
        exact hno (blks_mu1.2 ⟨n0, hb⟩)
      · rw [hb]
        refine ⟨fun _ => ⟨_, el, sortWorld_at hheap, by simpa [Go.Sort.putCells] using hcs, by simpa [hsl] using hlen', fun j hj => ?_, fun i hi => ?_⟩, fun h => by cases h⟩
        · rw [putCells_getD (by omega)]
          split
          · rfl
          · exact hone j hj
        · have hi' : i < (sortI d).length := by simpa using hi
          have hlt : l.base + i * 1 < c.size := by rw [hcs]; omega
          have e3 : (List.map iv (sortI d)).getD i .junk = iv ((sortI d)[i]!) := by
            rw [List.getD_eq_getElem?_getD, List.getElem?_map, List.getElem?_eq_getElem hi', getElem!_pos (sortI d) i hi']
            rfl
          rw [e3]
          refine ⟨rfl, ?_⟩
          show Rep _ _ Mu.none _ ((Go.Sort.putCells (Value.int .i64) l.base (sortI d).toArray c).getD (l.base + i * 1) undef)
          rw [putCells_getD hlt, if_pos (by simp; omega), show l.base + i * 1 - l.base = i by omega]
          have e4 : (sortI d).toArray[i]! = (sortI d)[i]! := by simp
          rw [e4]
          exact .raw rfl
end
end Go.Proofs.YtkhddecnllcaiaaGreat
end

section
/- The library's sort of words at this program: where its functions and types stand (written by the kit's tool lay-plain), and its contract. -/
namespace Go.Proofs.YtkhddecnllcaiaaGreat
open Go.Abs Go Go.Shelf
def lsortI_ren : Go.Shelf.Ren := ⟨fun | 189 => 50 | 125 => 89 | 257 => 88 | 128 => 123 | 129 => 124 | 294 => 114 | 295 => 115 | 296 => 116 | 297 => 117 | 298 => 118 | 299 => 119 | 216 => 120 | 300 => 121 | 301 => 122 | 328 => 155 | 329 => 156 | 330 => 157 | 331 => 158 | 332 => 159 | 215 => 141 | 343 => 179 | n => n, fun | 28 => 23 | 3 => 3 | 46 => 114 | 0 => 0 | 51 => 145 | 53 => 147 | 4 => 4 | 183 => 138 | 182 => 137 | 131 => 63 | 5 => 5 | 9 => 9 | 218 => 171 | 222 => 175 | 228 => 192 | 229 => 193 | n => n, fun | n => n⟩
theorem lsortI : Go.Proofs.Lays.n189 Tryz.prog lsortI_ren := {
  mixed := by kernel_rfl
  f125 := Tryz.func89.trans (congrArg some (by kernel_rfl))
  f128 := Tryz.func123.trans (congrArg some (by kernel_rfl))
  f129 := Tryz.func124.trans (congrArg some (by kernel_rfl))
  f189 := Tryz.func50.trans (congrArg some (by kernel_rfl))
  f215 := Tryz.func141.trans (congrArg some (by kernel_rfl))
  f216 := Tryz.func120.trans (congrArg some (by kernel_rfl))
  f257 := Tryz.func88.trans (congrArg some (by kernel_rfl))
  f294 := Tryz.func114.trans (congrArg some (by kernel_rfl))
  f295 := Tryz.func115.trans (congrArg some (by kernel_rfl))
  f296 := Tryz.func116.trans (congrArg some (by kernel_rfl))
  f297 := Tryz.func117.trans (congrArg some (by kernel_rfl))
  f298 := Tryz.func118.trans (congrArg some (by kernel_rfl))
  f299 := Tryz.func119.trans (congrArg some (by kernel_rfl))
  f300 := Tryz.func121.trans (congrArg some (by kernel_rfl))
  f301 := Tryz.func122.trans (congrArg some (by kernel_rfl))
  f328 := Tryz.func155.trans (congrArg some (by kernel_rfl))
  f329 := Tryz.func156.trans (congrArg some (by kernel_rfl))
  f330 := Tryz.func157.trans (congrArg some (by kernel_rfl))
  f331 := Tryz.func158.trans (congrArg some (by kernel_rfl))
  f332 := Tryz.func159.trans (congrArg some (by kernel_rfl))
  f343 := Tryz.func179.trans (congrArg some (by kernel_rfl))
  t0 := Tryz.underlying0
  a0 := Tryz.isAgg0
  z0 := Tryz.sizeOf0
  v0 := Tryz.zeroValue0
  t3 := Tryz.underlying3
  a3 := Tryz.isAgg3
  z3 := Tryz.sizeOf3
  v3 := Tryz.zeroValue3
  t4 := Tryz.underlying4
  a4 := Tryz.isAgg4
  z4 := Tryz.sizeOf4
  v4 := Tryz.zeroValue4
  t5 := Tryz.underlying5
  a5 := Tryz.isAgg5
  z5 := Tryz.sizeOf5
  v5 := Tryz.zeroValue5
  t9 := Tryz.underlying9
  a9 := Tryz.isAgg9
  z9 := Tryz.sizeOf9
  v9 := Tryz.zeroValue9
  t28 := Tryz.underlying23
  a28 := Tryz.isAgg23
  z28 := Tryz.sizeOf23
  v28 := Tryz.zeroValue23
  t46 := Tryz.underlying114
  a46 := Tryz.isAgg114
  z46 := Tryz.sizeOf114
  v46 := Tryz.zeroValue114
  t51 := Tryz.underlying145
  a51 := Tryz.isAgg145
  z51 := Tryz.sizeOf145
  v51 := Tryz.zeroValue145
  t53 := Tryz.underlying147
  a53 := Tryz.isAgg147
  z53 := Tryz.sizeOf147
  v53 := Tryz.zeroValue147
  t131 := Tryz.underlying63
  a131 := Tryz.isAgg63
  z131 := Tryz.sizeOf63
  v131 := Tryz.zeroValue63
  t182 := Tryz.underlying137
  a182 := Tryz.isAgg137
  z182 := Tryz.sizeOf137
  v182 := Tryz.zeroValue137
  t183 := Tryz.underlying138
  a183 := Tryz.isAgg138
  z183 := Tryz.sizeOf138
  v183 := Tryz.zeroValue138
  t218 := Tryz.underlying171
  a218 := Tryz.isAgg171
  z218 := Tryz.sizeOf171
  v218 := Tryz.zeroValue171
  t222 := Tryz.underlying175
  a222 := Tryz.isAgg175
  z222 := Tryz.sizeOf175
  v222 := Tryz.zeroValue175
  t228 := Tryz.underlying192
  a228 := Tryz.isAgg192
  z228 := Tryz.sizeOf192
  v228 := Tryz.zeroValue192
  t229 := Tryz.underlying193
  a229 := Tryz.isAgg193
  z229 := Tryz.sizeOf193
  v229 := Tryz.zeroValue193 }
end Go.Proofs.YtkhddecnllcaiaaGreat
end

section
/- Contracts: which grounds a derivation notes, which are needless; the statement OrderUses. -/
namespace Go.Proofs.YtkhddecnllcaiaaGreat
open Go.Abs Go
set_option maxRecDepth 20000
set_option maxHeartbeats 2000000
attribute [local irreducible] PreK CondK CallK CallG CallX LoopK
attribute [local simp] avsEq avEq akind teq vkind vEq

theorem chIndexFunc_c (l : List Choice) (hl : l.length ≤ 1000) (f : FuncId) (cap : List AV) (p : Choice → Bool) (hp : ∀ x, CallP Tryz.prog f (choiceV x :: cap) (bv (p x))) (h1 : ∀ m, snapL m cap = cap) (h2 : AV.refsL cap = []) (h3 : ∀ m, snapOKL m cap) :
    CallP Tryz.prog 82 [choicesV l, .fn f [] cap] (iv (idxG p 0 l)) := by
  refine C82 (by simp) ?_
  generalize hR : idxG p 0 l = R
  simp [A82]
  refine LoopK.by (fun i : Nat => ⟨[(8, iv i), (7, iv l.length), (0, choicesV l), (1, .fn f [] cap)], []⟩) (fun i => l.length - i) (fun i => i ≤ l.length ∧ idxG p i (l.drop i) = R) 0 (by simpa using hR) (by simp [h2]) ?_
  intro i Q' ⟨hi, hc⟩ hq he hr
  try simp 
  refine CondK.intro (fun h => ?_) (fun h => ?_)
  · simp at h
    have hpi := hp (el l i)
    rw [drop_cons l i h] at hc
    simp [h]
    refine CallX.pure (by simpa [h1] using hpi) (by simp [h3]) (by simp) ?_
    try simp 
    refine CondK.intro (fun h4 => ?_) (fun h4 => ?_)
    · simp [idxG, h4] at hc
      try simp 
      apply hr
      simp [hc]
    · simp [idxG, h4] at hc
      try simp 
      repeat' (first
        | ((with_reducible refine PreK.intro ?_ ?_); (next => (first | omega | (intros; first | omega | (refine ⟨by omega, ?_⟩; repeat (first | assumption | constructor)) | assumption))); intro _; try simp )
        | fail)
      exact hq (i + 1) _ ⟨by omega, hc⟩ (by omega) (by simp [h2])
  · simp at h
    rw [List.drop_eq_nil_of_le (by omega)] at hc
    simp [idxG] at hc
    try simp 
    apply he
    simp [hc]
theorem chContainsFunc_c (l : List Choice) (hl : l.length ≤ 1000) (f : FuncId) (cap : List AV) (p : Choice → Bool) (hp : ∀ x, CallP Tryz.prog f (choiceV x :: cap) (bv (p x))) (h1 : ∀ m, snapL m cap = cap) (h2 : AV.refsL cap = []) (h3 : ∀ m, snapOKL m cap) :
    CallP Tryz.prog 44 [choicesV l, .fn f [] cap] (bv (l.any p)) := by
  refine C44 (by simp) ?_
  rw [← idxG_any p l 0]
  simp [A44]
  refine CallX.pure (by simpa [h1] using chIndexFunc_c l hl f cap p hp h1 h2 h3) (by simp [h3]) (by simp) ?_
  try simp 
theorem used1_c (x : Choice) (g : Int) : CallP Tryz.prog 45 [choiceV x, .ipt (iv g) 0] (bv (decide (x.ground = g))) := by
  refine C45 (by simp) ?_
  simp [A45]
/-- The grounds from one on that are noted. -/
def usedF (l : List Choice) : Nat → Nat → List Int
  | _, 0 => []
  | g, n + 1 => if (l.any fun c => decide (c.ground = (g : Int))) = true then (g : Int) :: usedF l (g + 1) n else usedF l (g + 1) n
theorem usedF_len (l : List Choice) : ∀ n g, (usedF l g n).length ≤ n
  | 0, g => Nat.le_refl 0
  | n + 1, g => by
    have := usedF_len l n (g + 1)
    rw [usedF]
    split
    · simp; omega
    · omega
def UsedR (s : List Rule) (w gs : List Int) : List Int × Int := if (DeriveR s w gs).2.2 ≠ 0 then ([], (DeriveR s w gs).2.2) else (usedF (DeriveR s w gs).1 1 4, 0)
theorem DeriveR_num (s : List Rule) (w gs : List Int) : (DeriveR s w gs).1.length ≤ 1000 := by
  unfold DeriveR
  split
  · simp
  · split
    · have := deriveR_num s gs 60 w; dsimp only; omega
    · simp
theorem DeriveR_wlen (s : List Rule) (w gs : List Int) (hw : w.length ≤ 1000) : (DeriveR s w gs).2.1.length ≤ 1000 := by
  unfold DeriveR
  split
  · simp
  · split
    · exact deriveR_len s gs 60 w hw
    · simp
theorem Used_c (s : List Rule) (w gs : List Int) (hs : Sys.small s) (hw : w.length ≤ 1000) (hg : gs.length ≤ 1000) : CallP Tryz.prog 18 [rulesV s, ints w, ints gs] (.tup [ints (UsedR s w gs).1, iv (UsedR s w gs).2]) := by
  refine C18 (by simp) ?_
  have hd := Derive_c s w gs hs hw hg
  have hdn := DeriveR_num s w gs
  unfold UsedR
  generalize DeriveR s w gs = D at hd hdn
  obtain ⟨L, v, e⟩ := D
  dsimp only at hd hdn ⊢
  simp [A18]
  try simp 
  repeat' (first
    | (refine CallX.pure (hd) (by simp) (by simp) ?_; try simp )
    | (refine CallK.intro (hd) (by simp) (by simp) ?_; try simp )
    | (refine CallG.intro (fun _ => hd) (by simp) (by simp) ?_; try simp )
    | ((with_reducible refine PreK.intro ?_ ?_); (next => (first | omega | (intros; first | omega | (refine ⟨by omega, ?_⟩; repeat (first | assumption | constructor)) | assumption))); intro _; try simp )
    | fail)
  refine CondK.intro (fun h1 => ?_) (fun h1 => ?_)
  · simp at h1
    simp [h1]
  · simp at h1
    subst h1
    generalize hR : usedF L 1 4 = R
    try simp 
    repeat (refine PreK.intro (by first | omega | (intros; first | omega | (refine ⟨by omega, ?_⟩; simp_all; done) | (simp_all; done) | (simp_all; omega))) fun _ => ?_; (try simp ))
    refine LoopK.by (ι := Nat × Nat × Nat × List Int) (fun x => ⟨[(8, choicesV L), (11, .sl 11 x.2.2.1 0 x.2.2.2.length), (12, .pt 12 x.2.1 0 0)], [(11, some ⟨1, x.2.2.2.map iv, x.2.2.1, false⟩), (12, some ⟨1, [iv x.1], x.2.1, true⟩)]⟩) (fun x => 5 - x.1)
      (fun x => 1 ≤ x.1 ∧ x.1 ≤ 5 ∧ x.2.2.2.length ≤ x.1 ∧ x.2.2.2 ++ usedF L x.1 (5 - x.1) = R) (1, 1, 1, []) ⟨Nat.le_refl _, by simp, by simp, by simpa using hR⟩ (by simp) ?_
    intro ⟨g, v1, v2, acc⟩ Q' ⟨hg1, hg5, hal, hc⟩ hq he hr
    dsimp only at hg1 hg5 hal hc
    have hcf := chContainsFunc_c L hdn 45 [.ipt (iv g) 0] (fun c => decide (c.ground = (g : Int))) (fun x => used1_c x g) (by simp [snapL, snap]) (by simp [AV.refsL, AV.refs]) (by simp [snapOKL, snapOK])
    try simp 
    refine CondK.intro (fun h2 => ?_) (fun h2 => ?_)
    · simp at h2
      rw [show 5 - g = (5 - (g + 1)) + 1 by omega, usedF] at hc
      generalize (L.any fun c => decide (c.ground = (g : Int))) = b at hcf hc
      try simp 
      refine CallX.pure (by simpa using hcf) (by simp) (by simp) ?_
      try simp 
      cases b with
      | true =>
        refine CondK.tt ?_
        try simp 
        rw [if_pos rfl] at hc
        repeat (refine PreK.intro (by first | omega | (intros; first | omega | (refine ⟨by omega, ?_⟩; simp_all; done) | (simp_all; done) | (simp_all; omega))) fun _ => ?_; (try simp ))
        exact hq (g + 1, v1 + 1, v2 + 1, acc ++ [(g : Int)]) _ ⟨by dsimp only; omega, by dsimp only; omega, by simp; omega, by simpa using hc⟩ (by dsimp only; omega) (by simp)
      | false =>
        refine CondK.ff ?_
        try simp 
        rw [if_neg (by simp)] at hc
        repeat (refine PreK.intro (by first | omega | (intros; first | omega | (refine ⟨by omega, ?_⟩; simp_all; done) | (simp_all; done) | (simp_all; omega))) fun _ => ?_; (try simp ))
        exact hq (g + 1, v1 + 1, v2, acc) _ ⟨by dsimp only; omega, by dsimp only; omega, by dsimp only; omega, hc⟩ (by dsimp only; omega) (by simp)
    · simp at h2
      have : g = 5 := by omega
      subst this
      simp only [Nat.sub_self, usedF, List.append_nil] at hc
      subst hc
      try simp 
      apply he
      try simp 
theorem rUsed_c (s : List Rule) (w gs : List Int) (hs : Sys.small s) (hw : w.length ≤ 1000) (hg : gs.length ≤ 1000) : CallP Tryz.prog 19 [rulesV s, ints w, ints gs] (.tup [ints (UsedR s w gs).1, iv (UsedR s w gs).2]) := by
  refine C19 (by simp) ?_
  have hd := rDerive_c s w gs hs hw hg
  have hdn := DeriveR_num s w gs
  unfold UsedR
  generalize DeriveR s w gs = D at hd hdn
  obtain ⟨L, v, e⟩ := D
  dsimp only at hd hdn ⊢
  simp [A19]
  try simp 
  repeat' (first
    | (refine CallX.pure (hd) (by simp) (by simp) ?_; try simp )
    | (refine CallK.intro (hd) (by simp) (by simp) ?_; try simp )
    | (refine CallG.intro (fun _ => hd) (by simp) (by simp) ?_; try simp )
    | ((with_reducible refine PreK.intro ?_ ?_); (next => (first | omega | (intros; first | omega | (refine ⟨by omega, ?_⟩; repeat (first | assumption | constructor)) | assumption))); intro _; try simp )
    | fail)
  refine CondK.intro (fun h1 => ?_) (fun h1 => ?_)
  · simp at h1
    simp [h1]
  · simp at h1
    subst h1
    generalize hR : usedF L 1 4 = R
    try simp 
    repeat (refine PreK.intro (by first | omega | (intros; first | omega | (refine ⟨by omega, ?_⟩; simp_all; done) | (simp_all; done) | (simp_all; omega))) fun _ => ?_; (try simp ))
    refine LoopK.by (ι := Nat × Nat × List Int) (fun x => ⟨[(8, choicesV L), (12, iv x.1), (11, .sl 11 x.2.1 0 x.2.2.length)], [(11, some ⟨1, x.2.2.map iv, x.2.1, false⟩)]⟩) (fun x => 5 - x.1)
      (fun x => 1 ≤ x.1 ∧ x.1 ≤ 5 ∧ x.2.2.length ≤ x.1 ∧ x.2.2 ++ usedF L x.1 (5 - x.1) = R) (1, 1, []) ⟨Nat.le_refl _, by simp, by simp, by simpa using hR⟩ (by simp) ?_
    intro ⟨g, v2, acc⟩ Q' ⟨hg1, hg5, hal, hc⟩ hq he hr
    dsimp only at hg1 hg5 hal hc
    try simp 
    refine CondK.intro (fun h2 => ?_) (fun h2 => ?_)
    · simp at h2
      rw [show 5 - g = (5 - (g + 1)) + 1 by omega, usedF] at hc
      try simp 
      refine LoopK.by (ι := Nat) (fun i => ⟨[(13, iv i), (8, choicesV L), (12, iv g), (11, .sl 11 v2 0 acc.length)], [(11, some ⟨1, acc.map iv, v2, false⟩)]⟩) (fun i => L.length - i)
        (fun i => i ≤ L.length ∧ acc ++ (if ((L.drop i).any fun c => decide (c.ground = (g : Int))) = true then (g : Int) :: usedF L (g + 1) (5 - (g + 1)) else usedF L (g + 1) (5 - (g + 1))) = R) 0 ⟨Nat.zero_le _, hc⟩ (by simp) ?_
      intro i Q2 ⟨hi, hc2⟩ hq2 he2 hr2
      try simp 
      refine CondK.intro (fun h3 => ?_) (fun h3 => ?_)
      · simp at h3
        rw [drop_cons L i h3, List.any_cons] at hc2
        try simp [h3]
        repeat (refine PreK.intro (by first | omega | (intros; first | omega | (refine ⟨by omega, ?_⟩; simp_all; done) | (simp_all; done) | (simp_all; omega))) fun _ => ?_; (try simp [h3]))
        refine CondK.intro (fun h4 => ?_) (fun h4 => ?_)
        · simp at h4
          rw [decide_eq_true h4, Bool.true_or, if_pos rfl] at hc2
          try simp 
          repeat (refine PreK.intro (by first | omega | (intros; first | omega | (refine ⟨by omega, ?_⟩; simp_all; done) | (simp_all; done) | (simp_all; omega))) fun _ => ?_; (try simp ))
          apply he2
          repeat (refine PreK.intro (by first | omega | (intros; first | omega | (refine ⟨by omega, ?_⟩; simp_all; done) | (simp_all; done) | (simp_all; omega))) fun _ => ?_; (try simp ))
          exact hq (g + 1, v2 + 1, acc ++ [(g : Int)]) _ ⟨by dsimp only; omega, by dsimp only; omega, by simp; omega, by simpa using hc2⟩ (by dsimp only; omega) (by simp)
        · simp at h4
          rw [decide_eq_false h4, Bool.false_or] at hc2
          repeat (refine PreK.intro (by first | omega | (intros; first | omega | (refine ⟨by omega, ?_⟩; simp_all; done) | (simp_all; done) | (simp_all; omega))) fun _ => ?_; (try simp ))
          exact hq2 (i + 1) _ ⟨by omega, hc2⟩ (by omega) (by simp)
      · simp at h3
        rw [List.drop_eq_nil_of_le (by omega)] at hc2
        simp only [List.any_nil, Bool.false_eq_true, if_false] at hc2
        try simp 
        apply he2
        repeat (refine PreK.intro (by first | omega | (intros; first | omega | (refine ⟨by omega, ?_⟩; simp_all; done) | (simp_all; done) | (simp_all; omega))) fun _ => ?_; (try simp ))
        exact hq (g + 1, v2, acc) _ ⟨by dsimp only; omega, by dsimp only; omega, by dsimp only; omega, hc2⟩ (by dsimp only; omega) (by simp)
    · simp at h2
      have : g = 5 := by omega
      subst this
      simp only [Nat.sub_self, usedF, List.append_nil] at hc
      subst hc
      try simp 
      apply he
      try simp 
end Go.Proofs.YtkhddecnllcaiaaGreat
end

section
/- The statement OrderUses: which grounds are needless. -/
namespace Go.Proofs.YtkhddecnllcaiaaGreat
open Go.Abs Go
set_option maxRecDepth 20000
set_option maxHeartbeats 2000000
attribute [local irreducible] PreK CondK CallK CallG CallX LoopK
attribute [local simp] avsEq avEq akind teq vkind vEq

theorem dups_of : ∀ {r seen : List Int}, r.Nodup → (∀ x ∈ r, x ∉ seen) → dups seen r = false
  | [], _, _, _ => rfl
  | y :: r, seen, h, hs => by
    simp only [dups, Bool.or_eq_false_iff]
    obtain ⟨h1, h2⟩ := List.nodup_cons.1 h
    refine ⟨by simpa using hs y (by simp), dups_of h2 fun x hx => ?_⟩
    simp only [List.mem_append, List.mem_singleton, not_or]
    exact ⟨hs x (by simp [hx]), fun e => h1 (e ▸ hx)⟩
theorem gErr_parts {g : List Int} (h : gErr g = 0) : g.length ≤ 4 ∧ g.any gBad = false ∧ dups [] g = false := by
  have h1 := gErr_len h
  unfold gErr at h
  rw [if_neg (by omega)] at h
  refine ⟨h1, ?_, ?_⟩
  · cases hb : g.any gBad with
    | false => rfl
    | true => rw [hb] at h; simp at h
  · cases hb : g.any gBad with
    | true => rw [hb] at h; simp at h
    | false =>
      cases hd : dups [] g with
      | false => rfl
      | true => rw [hb, hd] at h; simp at h
theorem gErr_filter {g : List Int} (p : Int → Bool) (h : gErr g = 0) : gErr (g.filter p) = 0 := by
  obtain ⟨h1, h2, h3⟩ := gErr_parts h
  have hl := List.length_filter_le p g
  have hb : (g.filter p).any gBad = false := by
    rw [List.any_eq_false] at h2 ⊢
    intro x hx
    exact h2 x (List.mem_filter.1 hx).1
  have hn : dups [] (g.filter p) = false := by
    refine dups_of ?_ (by simp)
    have := (dups_nodup h3).1
    rw [List.nodup_iff_pairwise_ne] at this ⊢
    exact this.filter p
  unfold gErr
  rw [if_neg (by omega), hb, hn]
  simp
def needB (s : List Rule) (w gs : List Int) (g : Int) : Bool := (deriveR s (gs.filter (· ≠ g)) 60 w).2.2 && decide ((deriveR s (gs.filter (· ≠ g)) 60 w).2.1 = (DeriveR s w gs).2.1)
def NeedR (s : List Rule) (w gs : List Int) : List Int × Int := if (DeriveR s w gs).2.2 ≠ 0 then ([], (DeriveR s w gs).2.2) else (sortI (gs.filter (needB s w gs)), 0)
/-- The needless grounds from one on, by the reference's walk. -/
def needF (gs : List Int) (p : Int → Bool) : Nat → Nat → List Int
  | _, 0 => []
  | g, n + 1 => if gs.contains (g : Int) = true then (if p (g : Int) = true then (g : Int) :: needF gs p (g + 1) n else needF gs p (g + 1) n) else needF gs p (g + 1) n
theorem needF_mem {gs : List Int} {p : Int → Bool} {x : Int} : ∀ {n g : Nat}, x ∈ needF gs p g n ↔ (g : Int) ≤ x ∧ x < (g + n : Nat) ∧ x ∈ gs ∧ p x = true
  | 0, g => by
    simp only [needF, List.not_mem_nil, false_iff, Nat.add_zero]
    intro h; omega
  | n + 1, g => by
    have ih := @needF_mem gs p x n (g + 1)
    have key : ((g + 1 : Nat) : Int) ≤ x ∧ x < (g + 1 + n : Nat) ∧ x ∈ gs ∧ p x = true ↔ ((g : Int) ≤ x ∧ x < (g + (n + 1) : Nat) ∧ x ∈ gs ∧ p x = true) ∧ x ≠ g := by
      constructor
      · rintro ⟨h1, h2, h3, h4⟩; exact ⟨⟨by omega, by omega, h3, h4⟩, by omega⟩
      · rintro ⟨⟨h1, h2, h3, h4⟩, h5⟩; exact ⟨by omega, by omega, h3, h4⟩
    rw [needF]
    by_cases h1 : gs.contains (g : Int) = true
    · rw [if_pos h1]
      by_cases h2 : p (g : Int) = true
      · rw [if_pos h2, List.mem_cons, ih, key]
        constructor
        · rintro (rfl | h)
          · exact ⟨Int.le_refl _, by omega, by simpa using h1, h2⟩
          · exact h.1
        · intro h
          by_cases e : x = g
          · exact .inl e
          · exact .inr ⟨h, e⟩
      · rw [if_neg h2, ih, key]
        exact ⟨fun h => h.1, fun h => ⟨h, fun e => h2 (e ▸ h.2.2.2)⟩⟩
    · rw [if_neg h1, ih, key]
      refine ⟨fun h => h.1, fun h => ⟨h, fun e => h1 ?_⟩⟩
      have := h.2.2.1
      rw [e] at this
      simpa using this
theorem needF_up (gs : List Int) (p : Int → Bool) : ∀ n g, (needF gs p g n).Pairwise fun x y => x < y
  | 0, _ => List.Pairwise.nil
  | n + 1, g => by
    have ih := needF_up gs p n (g + 1)
    rw [needF]
    split
    · split
      · exact List.pairwise_cons.2 ⟨fun y hy => by have := (needF_mem.1 hy).1; omega, ih⟩
      · exact ih
    · exact ih
theorem needF_sort {gs : List Int} (p : Int → Bool) (h : gErr gs = 0) : sortI (gs.filter p) = needF gs p 1 4 := by
  have hu := needF_up gs p 4 1
  have hok := gErr_ok h
  refine sortI_eq ((List.perm_ext_iff_of_nodup ?_ ?_).2 fun x => ?_) (hu.imp fun h => by omega)
  · have := (dups_nodup (gErr_parts h).2.2).1
    rw [List.nodup_iff_pairwise_ne] at this ⊢
    exact this.filter p
  · rw [List.nodup_iff_pairwise_ne]
    exact hu.imp fun h => by omega
  · rw [needF_mem, List.mem_filter]
    refine ⟨fun hx => ?_, fun hx => hx.2.2⟩
    have := hok x hx.1
    exact ⟨by omega, by omega, hx⟩
theorem DeriveR_ok {s : List Rule} {w gs : List Int} (h : (DeriveR s w gs).2.2 = 0) : orderErr s w gs = 0 := by
  unfold DeriveR at h
  by_cases ho : orderErr s w gs = 0
  · exact ho
  · rw [if_pos ho] at h; exact h
theorem DeriveR_g {s : List Rule} {w gs : List Int} (h : (DeriveR s w gs).2.2 = 0) : swErr s w = 0 ∧ gErr gs = 0 := by
  have ho := DeriveR_ok h
  unfold orderErr at ho
  split at ho
  · rename_i h1; exact absurd ho h1
  · rename_i h1; exact ⟨by simpa using h1, ho⟩
theorem need_law {s : List Rule} {w gs : List Int} {x : Int} (hx : x ∈ (NeedR s w gs).1) :
    (DeriveR s w gs).2.2 = 0 ∧ gWithout gs x = (gs.filter (· ≠ x), 0) ∧ (DeriveR s w (gs.filter (· ≠ x))).2.2 = 0 ∧ (DeriveR s w (gs.filter (· ≠ x))).2.1 = (DeriveR s w gs).2.1 := by
  unfold NeedR at hx
  by_cases hd : (DeriveR s w gs).2.2 = 0
  · rw [if_neg (by simp [hd])] at hx
    obtain ⟨h1, h2⟩ := List.mem_filter.1 ((sortI_perm _).mem_iff.1 hx)
    obtain ⟨h3, h4⟩ := DeriveR_g hd
    have h5 := gErr_filter (fun y => decide (y ≠ x)) h4
    refine ⟨hd, ?_, ?_⟩
    · unfold gWithout
      rw [if_neg (by simp [h4]), if_pos h1]
    · simp only [needB, Bool.and_eq_true, decide_eq_true_eq] at h2
      have ho : orderErr s w (gs.filter (· ≠ x)) = 0 := by unfold orderErr; rw [if_neg (by simp [h3])]; exact h5
      have he : DeriveR s w (gs.filter (· ≠ x)) = ((deriveR s (gs.filter (· ≠ x)) 60 w).1, (deriveR s (gs.filter (· ≠ x)) 60 w).2.1, 0) := by
        unfold DeriveR
        rw [if_neg (fun h => h ho), if_pos h2.1]
      rw [he]
      exact ⟨rfl, h2.2⟩
  · rw [if_pos hd] at hx
    cases hx
theorem UsedR_len (s : List Rule) (w gs : List Int) : (UsedR s w gs).1.length ≤ 4 := by
  unfold UsedR
  split
  · simp
  · exact usedF_len _ 4 1
theorem NeedR_len (s : List Rule) (w gs : List Int) (hg : gs.length ≤ 1000) : (NeedR s w gs).1.length ≤ 1000 := by
  unfold NeedR
  split
  · simp
  · have h1 := sortI_len (gs.filter (needB s w gs))
    have h2 := List.length_filter_le (needB s w gs) gs
    dsimp only
    omega
theorem Needless_c (s : List Rule) (w gs : List Int) (hs : Sys.small s) (hw : w.length ≤ 1000) (hg : gs.length ≤ 1000) : CallP Tryz.prog 20 [rulesV s, ints w, ints gs] (.tup [ints (NeedR s w gs).1, iv (NeedR s w gs).2]) := by
  refine C20 (by simp) ?_
  have hd := Derive_c s w gs hs hw hg
  have hgo : (DeriveR s w gs).2.2 = 0 → gErr gs = 0 := fun h => (DeriveR_g h).2
  have hdl := DeriveR_wlen s w gs hw
  have hp : ∀ g, needB s w gs g = ((deriveR s (gs.filter (· ≠ g)) 60 w).2.2 && decide ((deriveR s (gs.filter (· ≠ g)) 60 w).2.1 = (DeriveR s w gs).2.1)) := fun _ => rfl
  unfold NeedR
  generalize needB s w gs = p at hp ⊢
  generalize DeriveR s w gs = D at hd hp hgo hdl
  obtain ⟨L, v, e⟩ := D
  dsimp only at hd hp hgo hdl ⊢
  simp [A20]
  try simp 
  repeat' (first
    | (refine CallX.pure (hd) (by simp) (by simp) ?_; try simp )
    | (refine CallK.intro (hd) (by simp) (by simp) ?_; try simp )
    | (refine CallG.intro (fun _ => hd) (by simp) (by simp) ?_; try simp )
    | ((with_reducible refine PreK.intro ?_ ?_); (next => (first | omega | (intros; first | omega | (refine ⟨by omega, ?_⟩; repeat (first | assumption | constructor)) | assumption))); intro _; try simp )
    | fail)
  refine CondK.intro (fun h1 => ?_) (fun h1 => ?_)
  · simp at h1
    simp [h1]
  · simp at h1
    subst h1
    have hge := hgo rfl
    have hgl := gErr_len hge
    generalize hR : gs.filter p = R
    repeat (refine PreK.intro (by first | omega | (intros; first | omega | (refine ⟨by omega, ?_⟩; simp_all; done) | (simp_all; done) | (simp_all; omega))) fun _ => ?_; (try simp ))
    refine LoopK.by (ι := Nat × Nat × List Int) (fun x => ⟨[(30, iv x.1), (29, iv gs.length), (28, ints gs), (11, .sl 11 x.2.1 0 x.2.2.length), (9, ints v), (2, ints gs), (1, ints w), (0, rulesV s)], [(11, some ⟨1, x.2.2.map iv, x.2.1, false⟩)]⟩) (fun x => gs.length - x.1)
      (fun x => x.1 ≤ gs.length ∧ x.2.2.length ≤ x.1 ∧ x.2.2 ++ (gs.drop x.1).filter p = R) (0, 1, []) ⟨Nat.zero_le _, by simp, by simpa using hR⟩ (by simp) ?_
    intro ⟨i, v2, acc⟩ Q' ⟨hi, hal, hc⟩ hq he hr
    dsimp only at hi hal hc
    try simp 
    refine CondK.intro (fun h2 => ?_) (fun h2 => ?_)
    · simp at h2
      rw [drop_cons gs i h2, List.filter_cons] at hc
      have hfe := gErr_filter (fun y => decide (y ≠ el gs i)) hge
      have hfg := gErr_ok hfe
      have hfl := gErr_len hfe
      have hf := oless_c gs (el gs i) hg
      have hdv := derive_c s w (gs.filter (· ≠ el gs i)) hs hw hfg (by omega)
      have hpi := hp (el gs i)
      have hd2 := deriveR_len s (gs.filter (· ≠ el gs i)) 60 w hw
      generalize hb : p (el gs i) = b at hpi hc
      generalize deriveR s (gs.filter (· ≠ el gs i)) 60 w = D2 at hpi hdv hd2
      generalize gs.filter (· ≠ el gs i) = G at hf hdv
      obtain ⟨D21, D22, D23⟩ := D2
      dsimp only at hpi hdv hd2
      cases D23 with
      | true =>
        simp only [if_true, Bool.true_and] at hdv hpi
        subst hpi
        have hq2 := equal_c D22 v (big_of hd2)
        try simp [h2]
        repeat' (first
          | (refine CallX.pure (hf) (by simp) (by simp) ?_; try simp [h2])
          | (refine CallK.intro (hf) (by simp) (by simp) ?_; try simp [h2])
          | (refine CallG.intro (fun _ => hf) (by simp) (by simp) ?_; try simp [h2])
          | (refine CallX.pure (hdv) (by simp) (by simp) ?_; try simp [h2])
          | (refine CallK.intro (hdv) (by simp) (by simp) ?_; try simp [h2])
          | (refine CallG.intro (fun _ => hdv) (by simp) (by simp) ?_; try simp [h2])
          | (refine CallX.pure (hq2) (by simp) (by simp) ?_; try simp [h2])
          | (refine CallK.intro (hq2) (by simp) (by simp) ?_; try simp [h2])
          | (refine CallG.intro (fun _ => hq2) (by simp) (by simp) ?_; try simp [h2])
          | ((with_reducible refine PreK.intro ?_ ?_); (next => (first | omega | (intros; first | omega | (refine ⟨by omega, ?_⟩; repeat (first | assumption | constructor)) | assumption))); intro _; try simp [h2])
          | fail)
        refine CondK.intro (fun h3 => ?_) (fun h3 => ?_)
        · simp at h3
          rw [decide_eq_true h3, if_pos rfl] at hc
          repeat (refine PreK.intro (by first | omega | (intros; first | omega | (refine ⟨by omega, ?_⟩; simp_all; done) | (simp_all; done) | (simp_all; omega))) fun _ => ?_; (try simp ))
          exact hq (i + 1, v2 + 1, acc ++ [el gs i]) _ ⟨by dsimp only; omega, by simp; omega, by simpa using hc⟩ (by dsimp only; omega) (by simp)
        · simp at h3
          rw [decide_eq_false h3, if_neg (by simp)] at hc
          repeat (refine PreK.intro (by first | omega | (intros; first | omega | (refine ⟨by omega, ?_⟩; simp_all; done) | (simp_all; done) | (simp_all; omega))) fun _ => ?_; (try simp ))
          exact hq (i + 1, v2, acc) _ ⟨by dsimp only; omega, by dsimp only; omega, hc⟩ (by dsimp only; omega) (by simp)
      | false =>
        simp only [Bool.false_eq_true, if_false, Bool.false_and] at hdv hpi
        subst hpi
        rw [if_neg (by simp)] at hc
        try simp [h2]
        repeat' (first
          | (refine CallX.pure (hf) (by simp) (by simp) ?_; try simp [h2])
          | (refine CallK.intro (hf) (by simp) (by simp) ?_; try simp [h2])
          | (refine CallG.intro (fun _ => hf) (by simp) (by simp) ?_; try simp [h2])
          | (refine CallX.pure (hdv) (by simp) (by simp) ?_; try simp [h2])
          | (refine CallK.intro (hdv) (by simp) (by simp) ?_; try simp [h2])
          | (refine CallG.intro (fun _ => hdv) (by simp) (by simp) ?_; try simp [h2])
          | ((with_reducible refine PreK.intro ?_ ?_); (next => (first | omega | (intros; first | omega | (refine ⟨by omega, ?_⟩; repeat (first | assumption | constructor)) | assumption))); intro _; try simp [h2])
          | fail)
        refine CallG.intro (r := bv true) (fun hh => by cases hh) (by simp) (by simp) ?_
        try simp 
        refine CondK.intro (fun h3 => ?_) (fun h3 => ?_)
        · simp at h3
        · repeat (refine PreK.intro (by first | omega | (intros; first | omega | (refine ⟨by omega, ?_⟩; simp_all; done) | (simp_all; done) | (simp_all; omega))) fun _ => ?_; (try simp ))
          exact hq (i + 1, v2, acc) _ ⟨by dsimp only; omega, by dsimp only; omega, hc⟩ (by dsimp only; omega) (by simp)
    · simp at h2
      rw [List.drop_eq_nil_of_le (by omega)] at hc
      simp only [List.filter_nil, List.append_nil] at hc
      subst hc
      have hl : CallL Tryz.prog 50 [] 1 (acc.map iv) [] (.val (.tup [])) ((sortI acc).map iv) := callL_sortI lsortI acc
      try simp 
      apply he
      try simp 
      refine CallX.lend [] (id := 11) (ver := v2) (n := acc.length) (b := ⟨1, acc.map iv, v2, false⟩) [] (.val (.tup [])) _ (by simp) (by simp) (by simp) (by simp) (by simp) (by simp) (by simp) (by simpa using hl) ?_
      have hsl := sortI_len acc
      have e : ((sortI acc).map iv).take acc.length = (sortI acc).map iv := by rw [← hsl]; simp
      try simp 
      repeat (refine PreK.intro (by first | omega | (intros; first | omega | (refine ⟨by omega, ?_⟩; simp_all; done) | (simp_all; done) | (simp_all; omega))) fun _ => ?_; (try simp [e]))
theorem rForm_c (s : List Rule) (w gs : List Int) (hs : Sys.small s) (hw : w.length ≤ 1000) (hg : gs.length ≤ 1000) : CallP Tryz.prog 51 [rulesV s, ints w, ints gs] (.tup [ints (DeriveR s w gs).2.1, iv (DeriveR s w gs).2.2]) := by
  refine C51 (by simp) ?_
  simp [A51]
  try simp 
  repeat' (first
    | (refine CallX.pure (rDerive_c s w gs hs hw hg) (by simp) (by simp) ?_; try simp )
    | (refine CallK.intro (rDerive_c s w gs hs hw hg) (by simp) (by simp) ?_; try simp )
    | (refine CallG.intro (fun _ => rDerive_c s w gs hs hw hg) (by simp) (by simp) ?_; try simp )
    | ((with_reducible refine PreK.intro ?_ ?_); (next => (first | omega | (intros; first | omega | (refine ⟨by omega, ?_⟩; repeat (first | assumption | constructor)) | assumption))); intro _; try simp )
    | fail)
theorem rNeedless_c (s : List Rule) (w gs : List Int) (hs : Sys.small s) (hw : w.length ≤ 1000) (hg : gs.length ≤ 1000) : CallP Tryz.prog 21 [rulesV s, ints w, ints gs] (.tup [ints (NeedR s w gs).1, iv (NeedR s w gs).2]) := by
  refine C21 (by simp) ?_
  have hd := rForm_c s w gs hs hw hg
  have hgo : (DeriveR s w gs).2.2 = 0 → gErr gs = 0 := fun h => (DeriveR_g h).2
  have hdl := DeriveR_wlen s w gs hw
  have hp : ∀ g, needB s w gs g = ((deriveR s (gs.filter (· ≠ g)) 60 w).2.2 && decide ((deriveR s (gs.filter (· ≠ g)) 60 w).2.1 = (DeriveR s w gs).2.1)) := fun _ => rfl
  unfold NeedR
  generalize needB s w gs = p at hp ⊢
  generalize DeriveR s w gs = D at hd hp hgo hdl
  obtain ⟨L, v, e⟩ := D
  dsimp only at hd hp hgo hdl ⊢
  simp [A21]
  try simp 
  repeat' (first
    | (refine CallX.pure (hd) (by simp) (by simp) ?_; try simp )
    | (refine CallK.intro (hd) (by simp) (by simp) ?_; try simp )
    | (refine CallG.intro (fun _ => hd) (by simp) (by simp) ?_; try simp )
    | ((with_reducible refine PreK.intro ?_ ?_); (next => (first | omega | (intros; first | omega | (refine ⟨by omega, ?_⟩; repeat (first | assumption | constructor)) | assumption))); intro _; try simp )
    | fail)
  refine CondK.intro (fun h1 => ?_) (fun h1 => ?_)
  · simp at h1
    simp [h1]
  · simp at h1
    subst h1
    have hge := hgo rfl
    have hgl := gErr_len hge
    simp only [ne_eq, not_true_eq_false, if_false]
    generalize hR : sortI (gs.filter p) = R
    rw [needF_sort p hge] at hR
    repeat (refine PreK.intro (by first | omega | (intros; first | omega | (refine ⟨by omega, ?_⟩; simp_all; done) | (simp_all; done) | (simp_all; omega))) fun _ => ?_; (try simp ))
    refine LoopK.by (ι := Nat × Nat × List Int) (fun x => ⟨[(11, iv x.1), (10, .sl 10 x.2.1 0 x.2.2.length), (8, ints v), (2, ints gs), (1, ints w), (0, rulesV s)], [(10, some ⟨1, x.2.2.map iv, x.2.1, false⟩)]⟩) (fun x => 5 - x.1)
      (fun x => 1 ≤ x.1 ∧ x.1 ≤ 5 ∧ x.2.2.length ≤ x.1 ∧ x.2.2 ++ needF gs p x.1 (5 - x.1) = R) (1, 1, []) ⟨Nat.le_refl 1, by simp, by simp, by simpa using hR⟩ (by simp) ?_
    intro ⟨g, v2, acc⟩ Q' ⟨hg1, hg5, hal, hc⟩ hq he hr
    dsimp only at hg1 hg5 hal hc
    try simp 
    refine CondK.intro (fun h2 => ?_) (fun h2 => ?_)
    · simp at h2
      rw [show 5 - g = (5 - (g + 1)) + 1 by omega, needF] at hc
      have hh := has_c gs (g : Int) (big_of (by omega))
      have hfe := gErr_filter (fun y => decide (y ≠ (g : Int))) hge
      have hfg := gErr_ok hfe
      have hfl := gErr_len hfe
      have hf := less_c gs (g : Int) hg
      have hdv := rderive_c s w (gs.filter (· ≠ (g : Int))) hs hw hfg (by omega)
      have hpi := hp (g : Int)
      have hd2 := deriveR_len s (gs.filter (· ≠ (g : Int))) 60 w hw
      generalize hb : p (g : Int) = b at hpi hc
      generalize deriveR s (gs.filter (· ≠ (g : Int))) 60 w = D2 at hpi hdv hd2
      generalize gs.filter (· ≠ (g : Int)) = G at hf hdv
      obtain ⟨D21, D22, D23⟩ := D2
      dsimp only at hpi hdv hd2
      generalize hgc : gs.contains (g : Int) = gc at hh hc
      try simp 
      repeat' (first
        | (refine CallX.pure (hh) (by simp) (by simp) ?_; try simp )
        | (refine CallK.intro (hh) (by simp) (by simp) ?_; try simp )
        | (refine CallG.intro (fun _ => hh) (by simp) (by simp) ?_; try simp )
        | ((with_reducible refine PreK.intro ?_ ?_); (next => (first | omega | (intros; first | omega | (refine ⟨by omega, ?_⟩; repeat (first | assumption | constructor)) | assumption))); intro _; try simp )
        | fail)
      cases gc with
      | false =>
        rw [if_neg (by simp)] at hc
        refine CondK.tt ?_
        try simp 
        repeat (refine PreK.intro (by first | omega | (intros; first | omega | (refine ⟨by omega, ?_⟩; simp_all; done) | (simp_all; done) | (simp_all; omega))) fun _ => ?_; (try simp ))
        exact hq (g + 1, v2, acc) _ ⟨by dsimp only; omega, by dsimp only; omega, by dsimp only; omega, hc⟩ (by dsimp only; omega) (by simp)
      | true =>
        rw [if_pos rfl] at hc
        refine CondK.ff ?_
        try simp 
        cases D23 with
        | true =>
          simp only [Bool.true_and] at hpi
          subst hpi
          have hq2 := sameInts_c D22 v (big_of hd2)
          try simp 
          repeat' (first
            | (refine CallX.pure (hf) (by simp) (by simp) ?_; try simp )
            | (refine CallK.intro (hf) (by simp) (by simp) ?_; try simp )
            | (refine CallG.intro (fun _ => hf) (by simp) (by simp) ?_; try simp )
            | (refine CallX.pure (hdv) (by simp) (by simp) ?_; try simp )
            | (refine CallK.intro (hdv) (by simp) (by simp) ?_; try simp )
            | (refine CallG.intro (fun _ => hdv) (by simp) (by simp) ?_; try simp )
            | (refine CallX.pure (hq2) (by simp) (by simp) ?_; try simp )
            | (refine CallK.intro (hq2) (by simp) (by simp) ?_; try simp )
            | (refine CallG.intro (fun _ => hq2) (by simp) (by simp) ?_; try simp )
            | ((with_reducible refine PreK.intro ?_ ?_); (next => (first | omega | (intros; first | omega | (refine ⟨by omega, ?_⟩; repeat (first | assumption | constructor)) | assumption))); intro _; try simp )
            | fail)
          refine CondK.intro (fun h3 => ?_) (fun h3 => ?_)
          · simp at h3
            rw [decide_eq_true h3, if_pos rfl] at hc
            repeat (refine PreK.intro (by first | omega | (intros; first | omega | (refine ⟨by omega, ?_⟩; simp_all; done) | (simp_all; done) | (simp_all; omega))) fun _ => ?_; (try simp ))
            exact hq (g + 1, v2 + 1, acc ++ [(g : Int)]) _ ⟨by dsimp only; omega, by dsimp only; omega, by simp; omega, by simpa using hc⟩ (by dsimp only; omega) (by simp)
          · simp at h3
            rw [decide_eq_false h3, if_neg (by simp)] at hc
            repeat (refine PreK.intro (by first | omega | (intros; first | omega | (refine ⟨by omega, ?_⟩; simp_all; done) | (simp_all; done) | (simp_all; omega))) fun _ => ?_; (try simp ))
            exact hq (g + 1, v2, acc) _ ⟨by dsimp only; omega, by dsimp only; omega, by dsimp only; omega, hc⟩ (by dsimp only; omega) (by simp)
        | false =>
          simp only [Bool.false_and] at hpi
          subst hpi
          rw [if_neg (by simp)] at hc
          try simp 
          repeat' (first
            | (refine CallX.pure (hf) (by simp) (by simp) ?_; try simp )
            | (refine CallK.intro (hf) (by simp) (by simp) ?_; try simp )
            | (refine CallG.intro (fun _ => hf) (by simp) (by simp) ?_; try simp )
            | (refine CallX.pure (hdv) (by simp) (by simp) ?_; try simp )
            | (refine CallK.intro (hdv) (by simp) (by simp) ?_; try simp )
            | (refine CallG.intro (fun _ => hdv) (by simp) (by simp) ?_; try simp )
            | ((with_reducible refine PreK.intro ?_ ?_); (next => (first | omega | (intros; first | omega | (refine ⟨by omega, ?_⟩; repeat (first | assumption | constructor)) | assumption))); intro _; try simp )
            | fail)
          refine CallG.intro (r := bv true) (fun hh => by cases hh) (by simp) (by simp) ?_
          try simp 
          refine CondK.intro (fun h3 => ?_) (fun h3 => ?_)
          · simp at h3
          · repeat (refine PreK.intro (by first | omega | (intros; first | omega | (refine ⟨by omega, ?_⟩; simp_all; done) | (simp_all; done) | (simp_all; omega))) fun _ => ?_; (try simp ))
            exact hq (g + 1, v2, acc) _ ⟨by dsimp only; omega, by dsimp only; omega, by dsimp only; omega, hc⟩ (by dsimp only; omega) (by simp)
    · simp at h2
      have : g = 5 := by omega
      subst this
      simp only [Nat.sub_self, needF, List.append_nil] at hc
      subst hc
      try simp 
      apply he
      try simp 
theorem lawOrderUses_c (x : Case) (hb : x.rules.length ≤ big) : CallP Tryz.prog 4 [caseV x] (bv true) := by
  refine C4 (by simp) ?_
  simp [A4]
  refine CallX.pure (by simpa using Long_c x hb) (by simp) (by simp) ?_
  try simp 
  refine CondK.intro (fun h1 => ?_) (fun h1 => ?_)
  · try simp 
    repeat' (first
      | (refine CallX.pure (sane_c) (by simp) (by simp) ?_; try simp )
      | (refine CallK.intro (sane_c) (by simp) (by simp) ?_; try simp )
      | (refine CallG.intro (fun _ => sane_c) (by simp) (by simp) ?_; try simp )
      | ((with_reducible refine PreK.intro ?_ ?_); (next => (first | omega | (intros; first | omega | (refine ⟨by omega, ?_⟩; repeat (first | assumption | constructor)) | assumption))); intro _; try simp )
      | fail)
  · try simp at h1
    obtain ⟨hs, hw, hg, _⟩ := longC_small h1
    have hU1 := Used_c x.rules x.word x.grounds hs hw hg
    have hU2 := rUsed_c x.rules x.word x.grounds hs hw hg
    have hN1 := Needless_c x.rules x.word x.grounds hs hw hg
    have hN2 := rNeedless_c x.rules x.word x.grounds hs hw hg
    have hul : (UsedR x.rules x.word x.grounds).1.length ≤ 4 := UsedR_len _ _ _
    have hnl : (NeedR x.rules x.word x.grounds).1.length ≤ 1000 := NeedR_len _ _ _ hg
    have hlaw : ∀ y ∈ (NeedR x.rules x.word x.grounds).1, _ := fun y hy => need_law hy
    have hF := Form_c x.rules x.word x.grounds hs hw hg
    generalize UsedR x.rules x.word x.grounds = U at hU1 hU2 hul
    generalize NeedR x.rules x.word x.grounds = N at hN1 hN2 hnl hlaw
    obtain ⟨U1, U2⟩ := U
    obtain ⟨N1, N2⟩ := N
    dsimp only at hU1 hU2 hN1 hN2 hul hnl hlaw
    have hsu := sameInts_c U1 U1 (big_of (by omega))
    have hsn := sameInts_c N1 N1 (big_of (by omega))
    try simp 
    repeat' (first
      | (refine CallX.pure (hU1) (by simp) (by simp) ?_; try simp )
      | (refine CallK.intro (hU1) (by simp) (by simp) ?_; try simp )
      | (refine CallG.intro (fun _ => hU1) (by simp) (by simp) ?_; try simp )
      | (refine CallX.pure (hU2) (by simp) (by simp) ?_; try simp )
      | (refine CallK.intro (hU2) (by simp) (by simp) ?_; try simp )
      | (refine CallG.intro (fun _ => hU2) (by simp) (by simp) ?_; try simp )
      | (refine CallX.pure (hN1) (by simp) (by simp) ?_; try simp )
      | (refine CallK.intro (hN1) (by simp) (by simp) ?_; try simp )
      | (refine CallG.intro (fun _ => hN1) (by simp) (by simp) ?_; try simp )
      | (refine CallX.pure (hN2) (by simp) (by simp) ?_; try simp )
      | (refine CallK.intro (hN2) (by simp) (by simp) ?_; try simp )
      | (refine CallG.intro (fun _ => hN2) (by simp) (by simp) ?_; try simp )
      | (refine CallX.pure (hsu) (by simp) (by simp) ?_; try simp )
      | (refine CallK.intro (hsu) (by simp) (by simp) ?_; try simp )
      | (refine CallG.intro (fun _ => hsu) (by simp) (by simp) ?_; try simp )
      | (refine CallX.pure (hsn) (by simp) (by simp) ?_; try simp )
      | (refine CallK.intro (hsn) (by simp) (by simp) ?_; try simp )
      | (refine CallG.intro (fun _ => hsn) (by simp) (by simp) ?_; try simp )
      | ((with_reducible refine PreK.intro ?_ ?_); (next => (first | omega | (intros; first | omega | (refine ⟨by omega, ?_⟩; repeat (first | assumption | constructor)) | assumption))); intro _; try simp )
      | fail)
    refine CondK.intro (fun h2 => ?_) (fun h2 => ?_)
    · simp at h2
    · try simp 
      refine LoopK.by (fun i : Nat => ⟨[(11, iv i), (7, ints N1), (1, .pt 1 1 0 0)], [(1, some ⟨3, [caseV x], 1, true⟩)]⟩) (fun i => N1.length - i) (fun i => i ≤ N1.length) 0 (Nat.zero_le _) (by simp) ?_
      intro i Q' hi hq he hr
      try simp 
      refine CondK.intro (fun h4 => ?_) (fun h4 => ?_)
      · simp at h4
        obtain ⟨l1, l2, l3, l4⟩ := hlaw (el N1 i) (el_mem_of N1 i h4)
        have hwo := oWithout_c x.grounds (el N1 i) hg
        rw [l2] at hwo
        have hfl := filter_len_le x.grounds (el N1 i)
        have hF2 := Form_c x.rules x.word (x.grounds.filter (· ≠ el N1 i)) hs hw (by omega)
        have hdl := DeriveR_wlen x.rules x.word x.grounds hw
        generalize x.grounds.filter (· ≠ el N1 i) = G at hwo hF2 l3 l4
        rw [l3, l4] at hF2
        rw [l1] at hF
        generalize (DeriveR x.rules x.word x.grounds).2.1 = W at hF hF2 hdl
        have hsw := sameInts_c W W (big_of (by omega))
        dsimp only at hwo
        try simp [h4]
        refine CallK.intro (by simpa using hwo) (by simp) (by simp) ?_
        try simp [h4]
        try simp [h4]
        repeat' (first
          | (refine CallX.pure (hF2) (by simp) (by simp) ?_; try simp [h4])
          | (refine CallK.intro (hF2) (by simp) (by simp) ?_; try simp [h4])
          | (refine CallG.intro (fun _ => hF2) (by simp) (by simp) ?_; try simp [h4])
          | (refine CallX.pure (hF) (by simp) (by simp) ?_; try simp [h4])
          | (refine CallK.intro (hF) (by simp) (by simp) ?_; try simp [h4])
          | (refine CallG.intro (fun _ => hF) (by simp) (by simp) ?_; try simp [h4])
          | (refine CallX.pure (hsw) (by simp) (by simp) ?_; try simp [h4])
          | (refine CallK.intro (hsw) (by simp) (by simp) ?_; try simp [h4])
          | (refine CallG.intro (fun _ => hsw) (by simp) (by simp) ?_; try simp [h4])
          | ((with_reducible refine PreK.intro ?_ ?_); (next => (first | omega | (intros; first | omega | (refine ⟨by omega, ?_⟩; repeat (first | assumption | constructor)) | assumption))); intro _; try simp [h4])
          | fail)
        refine CondK.intro (fun h5 => ?_) (fun h5 => ?_)
        · simp at h5
        · repeat (refine PreK.intro (by first | omega | (intros; first | omega | (refine ⟨by omega, ?_⟩; simp_all; done) | (simp_all; done) | (simp_all; omega))) fun _ => ?_; (try simp ))
          exact hq (i + 1) _ (by omega) (by omega) (by simp)
      · try simp 
        apply he
        try simp 
        repeat' (first
          | (refine CallX.pure (sane_c) (by simp) (by simp) ?_; try simp )
          | (refine CallK.intro (sane_c) (by simp) (by simp) ?_; try simp )
          | (refine CallG.intro (fun _ => sane_c) (by simp) (by simp) ?_; try simp )
          | ((with_reducible refine PreK.intro ?_ ?_); (next => (first | omega | (intros; first | omega | (refine ⟨by omega, ?_⟩; repeat (first | assumption | constructor)) | assumption))); intro _; try simp )
          | fail)
end Go.Proofs.YtkhddecnllcaiaaGreat
end
