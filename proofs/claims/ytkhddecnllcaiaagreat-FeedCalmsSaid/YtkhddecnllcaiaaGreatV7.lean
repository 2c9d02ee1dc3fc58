/- Part 7 of the proof: the value layer and the contracts of the functions that the statement reaches; proved without conditions beyond those each theorem states. -/
import Derived.Shelf.SlSortCmp.Whole1
import Derived.Shelf.SlSortCmp.NoneTotal
import Derived.Test.YtkhddecnllcaiaaGreatProg
import Derived.Test.YtkhddecnllcaiaaGreatV4
import Derived.Test.YtkhddecnllcaiaaGreatV5
import Derived.Test.YtkhddecnllcaiaaGreatV6
set_option linter.unusedSimpArgs false
set_option linter.unusedVariables false

section
/- Functions of the cut as the value layer reads them. (written by gen.py) -/
set_option maxRecDepth 20000
namespace Go.Proofs.YtkhddecnllcaiaaGreat
open Go.Abs Go

def A32 : ACode :=
  (.seq (.reg [] [⟨some 4, (.assign (.const (.bool false))), 4, none⟩])
    (.seq (.seq (.reg [] [⟨some 6, (.move (.tmp 0)), 23, none⟩,
      ⟨some 7, (.call ⟨(.builtin .len), #[(.tmp 6)], #[23]⟩), 3, none⟩,
      ⟨some 8, (.move (.tmp 1)), 23, none⟩,
      ⟨some 9, (.call ⟨(.builtin .len), #[(.tmp 8)], #[23]⟩), 3, none⟩,
      ⟨some 10, (.binOp .neq 3 (.tmp 7) (.tmp 9) 3), 4, none⟩])
    (.cond (.tmp 10)
    (.seq (.reg [] [⟨some 4, (.assign (.const (.bool false))), 4, none⟩])
    .ret)
    .skip))
    (.seq (.seq (.reg [] [⟨some 5, (.assign (.const (.int .i64 0))), 3, none⟩])
    (.block 0 (.loop (.seq (.seq (.reg [] [⟨some 11, (.move (.tmp 5)), 3, none⟩,
      ⟨some 12, (.move (.tmp 0)), 23, none⟩,
      ⟨some 13, (.call ⟨(.builtin .len), #[(.tmp 12)], #[23]⟩), 3, none⟩,
      ⟨some 14, (.binOp .lss 3 (.tmp 11) (.tmp 13) 3), 4, none⟩])
    (.cond (.tmp 14)
    .skip
    (.exit 0)))
    (.seq (.block 1 (.seq (.draw [] [⟨some 17, (.move (.tmp 0)), 23, none⟩,
      ⟨some 18, (.move (.tmp 5)), 3, none⟩,
      ⟨some 19, (.indexAddr 23 (.tmp 17) (.tmp 18)), 0, none⟩,
      ⟨some 20, (.load 3 (.tmp 19)), 3, none⟩,
      ⟨some 21, (.move (.tmp 1)), 23, none⟩,
      ⟨some 22, (.move (.tmp 5)), 3, none⟩,
      ⟨some 23, (.indexAddr 23 (.tmp 21) (.tmp 22)), 0, none⟩,
      ⟨some 24, (.load 3 (.tmp 23)), 3, none⟩,
      ⟨some 25, (.binOp .neq 3 (.tmp 20) (.tmp 24) 3), 4, none⟩] [(0, 1), (0, 4), (1, 4), (2, 4), (3, 4), (0, 5), (1, 5), (2, 5), (3, 5), (4, 5), (0, 6), (1, 6), (2, 6), (3, 6), (0, 7), (1, 7), (2, 7), (3, 7)])
    (.cond (.tmp 25)
    (.seq (.reg [] [⟨some 4, (.assign (.const (.bool false))), 4, none⟩])
    .ret)
    .skip)))
    (.reg [] [⟨some 15, (.move (.tmp 5)), 3, none⟩,
      ⟨some 16, (.binOp .add 3 (.tmp 15) (.const (.int .i64 1)) 3), 3, none⟩,
      ⟨some 5, (.assign (.tmp 16)), 3, none⟩]))))))
    (.seq (.reg [] [⟨some 4, (.assign (.const (.bool true))), 4, none⟩])
    .ret))))
theorem C32 {args : List AV} {r : AV} (hn : args.length ≤ 26) (h : vc Tryz.prog T [] A32 (Fin T [(.tmp 4)] r) ⟨envOf 0 args, []⟩) : CallP Tryz.prog 32 args r :=
  callP_of tok mixed Tryz.func32 (by kernel_rfl) (by kernel_rfl) (by kernel_rfl : Tryz.f32.ntmps = 26) (by kernel_rfl : Tryz.f32.body.bind (strip 26 (fun _ => [])) = some A32) hn h
def A7 : ACode :=
  (.seq (.reg [] [⟨some 2, (.assign (.const (.bool false))), 4, none⟩])
    (.seq (.seq (.reg [] [⟨some 4, (.move (.tmp 0)), 22, none⟩,
      ⟨some 5, (.call ⟨(.builtin .len), #[(.tmp 4)], #[22]⟩), 3, none⟩,
      ⟨some 6, (.binOp .gtr 3 (.tmp 5) (.const (.int .i64 50)) 3), 4, none⟩])
    (.cond (.tmp 6)
    (.seq (.reg [] [⟨some 2, (.assign (.const (.bool true))), 4, none⟩])
    .ret)
    .skip))
    (.seq (.seq (.reg [] [⟨some 3, (.assign (.const (.int .i64 0))), 3, none⟩])
    (.block 0 (.loop (.seq (.seq (.reg [] [⟨some 7, (.move (.tmp 3)), 3, none⟩,
      ⟨some 8, (.move (.tmp 0)), 22, none⟩,
      ⟨some 9, (.call ⟨(.builtin .len), #[(.tmp 8)], #[22]⟩), 3, none⟩,
      ⟨some 10, (.binOp .lss 3 (.tmp 7) (.tmp 9) 3), 4, none⟩])
    (.cond (.tmp 10)
    .skip
    (.exit 0)))
    (.seq (.block 1 (.seq (.reg [] [⟨some 13, (.move (.tmp 0)), 22, none⟩,
      ⟨some 14, (.move (.tmp 3)), 3, none⟩,
      ⟨some 15, (.indexAddr 22 (.tmp 13) (.tmp 14)), 0, none⟩,
      ⟨some 16, (.load 46 (.tmp 15)), 46, none⟩,
      ⟨some 17, (.call ⟨(.value (.func 33)), #[(.tmp 16)], #[46]⟩), 4, none⟩])
    (.cond (.tmp 17)
    (.seq (.reg [] [⟨some 2, (.assign (.const (.bool true))), 4, none⟩])
    .ret)
    .skip)))
    (.reg [] [⟨some 11, (.move (.tmp 3)), 3, none⟩,
      ⟨some 12, (.binOp .add 3 (.tmp 11) (.const (.int .i64 1)) 3), 3, none⟩,
      ⟨some 3, (.assign (.tmp 12)), 3, none⟩]))))))
    (.seq (.reg [] [⟨some 2, (.assign (.const (.bool false))), 4, none⟩])
    .ret))))
theorem C7 {args : List AV} {r : AV} (hn : args.length ≤ 18) (h : vc Tryz.prog T [] A7 (Fin T [(.tmp 2)] r) ⟨envOf 0 args, []⟩) : CallP Tryz.prog 7 args r :=
  callP_of tok mixed Tryz.func7 (by kernel_rfl) (by kernel_rfl) (by kernel_rfl : Tryz.f7.ntmps = 18) (by kernel_rfl : Tryz.f7.body.bind (strip 18 (fun _ => [])) = some A7) hn h
def A8 : ACode :=
  (.seq (.reg [] [⟨some 2, (.assign (.const (.bool false))), 4, none⟩])
    (.seq (.reg [] [⟨some 3, (.move (.tmp 0)), 23, none⟩,
      ⟨some 4, (.call ⟨(.builtin .len), #[(.tmp 3)], #[23]⟩), 3, none⟩,
      ⟨some 5, (.binOp .gtr 3 (.tmp 4) (.const (.int .i64 100)) 3), 4, none⟩,
      ⟨some 2, (.assign (.tmp 5)), 4, none⟩])
    .ret))
theorem C8 {args : List AV} {r : AV} (hn : args.length ≤ 6) (h : vc Tryz.prog T [] A8 (Fin T [(.tmp 2)] r) ⟨envOf 0 args, []⟩) : CallP Tryz.prog 8 args r :=
  callP_of tok mixed Tryz.func8 (by kernel_rfl) (by kernel_rfl) (by kernel_rfl : Tryz.f8.ntmps = 6) (by kernel_rfl : Tryz.f8.body.bind (strip 6 (fun _ => [])) = some A8) hn h
def A9 : ACode :=
  (.seq (.reg [] [⟨some 0, (.assign (.const (.bool false))), 4, none⟩])
    (.seq (.reg [] [⟨some 7, (.buildSlice 23 2 #[(0, (.const (.int .i64 1))), (1, (.const (.int .i64 1)))]), 23, none⟩,
      ⟨some 8, (.build 46 #[(0, (.const (.int .i64 0))), (1, (.tmp 7))]), 46, none⟩,
      ⟨some 9, (.build 46 #[(0, (.const (.int .i64 1)))]), 46, none⟩,
      ⟨some 10, (.buildSlice 22 2 #[(0, (.tmp 8)), (1, (.tmp 9))]), 22, none⟩,
      ⟨some 11, (.call ⟨(.value (.func 34)), #[(.tmp 10)], #[22]⟩), 42, none⟩,
      ⟨some 6, (.move (.tmp 11)), 42, none⟩,
      ⟨some 12, (.extract (.tmp 6) 0), 23, none⟩,
      ⟨some 13, (.extract (.tmp 6) 1), 4, none⟩,
      ⟨some 14, (.extract (.tmp 6) 2), 28, none⟩,
      ⟨some 1, (.assign (.tmp 12)), 23, none⟩,
      ⟨some 2, (.assign (.tmp 13)), 4, none⟩,
      ⟨some 3, (.assign (.tmp 14)), 28, none⟩])
    (.seq (.reg [] [⟨some 16, (.buildSlice 23 1 #[(0, (.const (.int .i64 1)))]), 23, none⟩,
      ⟨some 17, (.build 46 #[(0, (.const (.int .i64 0))), (1, (.tmp 16))]), 46, none⟩,
      ⟨some 18, (.buildSlice 23 1 #[(0, (.const (.int .i64 2)))]), 23, none⟩,
      ⟨some 19, (.build 46 #[(0, (.const (.int .i64 0))), (1, (.tmp 18))]), 46, none⟩,
      ⟨some 20, (.buildSlice 22 2 #[(0, (.tmp 17)), (1, (.tmp 19))]), 22, none⟩,
      ⟨some 21, (.buildSlice 23 1 #[(0, (.const (.int .i64 0)))]), 23, none⟩,
      ⟨some 22, (.call ⟨(.value (.func 10)), #[(.tmp 20), (.tmp 21)], #[22, 23]⟩), 29, none⟩,
      ⟨some 15, (.move (.tmp 22)), 29, none⟩,
      ⟨some 23, (.extract (.tmp 15) 0), 27, none⟩,
      ⟨some 24, (.extract (.tmp 15) 1), 28, none⟩,
      ⟨some 4, (.assign (.tmp 23)), 27, none⟩,
      ⟨some 5, (.assign (.tmp 24)), 28, none⟩])
    (.seq (.reg [] [⟨some 25, (.move (.tmp 3)), 28, none⟩,
      ⟨some 26, (.binOp .eql 28 (.tmp 25) (.const (.int .i64 0)) 28), 4, none⟩,
      ⟨some 27, (.move (.tmp 26)), 4, none⟩,
      ⟨some 28, (.move (.tmp 2)), 4, some (27, true)⟩,
      ⟨some 29, (.pick (.tmp 27) (.tmp 28) (.const (.bool false))), 4, none⟩,
      ⟨some 30, (.move (.tmp 29)), 4, none⟩,
      ⟨some 31, (.move (.tmp 1)), 23, some (30, true)⟩,
      ⟨some 32, (.buildSlice 23 6 #[(0, (.const (.int .i64 3))), (1, (.const (.int .i64 1))), (2, (.const (.int .i64 0))), (3, (.const (.int .i64 0))), (4, (.const (.int .i64 0))), (5, (.const (.int .i64 0)))]), 23, some (30, true)⟩,
      ⟨some 33, (.call ⟨(.value (.func 32)), #[(.tmp 31), (.tmp 32)], #[23, 23]⟩), 4, some (30, true)⟩,
      ⟨some 34, (.pick (.tmp 30) (.tmp 33) (.const (.bool false))), 4, none⟩,
      ⟨some 35, (.move (.tmp 34)), 4, none⟩,
      ⟨some 36, (.move (.tmp 5)), 28, some (35, true)⟩,
      ⟨some 37, (.binOp .eql 28 (.tmp 36) (.const (.int .i64 0)) 28), 4, some (35, true)⟩,
      ⟨some 38, (.pick (.tmp 35) (.tmp 37) (.const (.bool false))), 4, none⟩,
      ⟨some 39, (.move (.tmp 38)), 4, none⟩,
      ⟨some 40, (.move (.tmp 4)), 27, some (39, true)⟩,
      ⟨some 41, (.buildSlice 23 1 #[(0, (.const (.int .i64 1)))]), 23, some (39, true)⟩,
      ⟨some 42, (.buildSlice 23 1 #[(0, (.const (.int .i64 2)))]), 23, some (39, true)⟩,
      ⟨some 43, (.buildSlice 27 2 #[(0, (.tmp 41)), (1, (.tmp 42))]), 27, some (39, true)⟩,
      ⟨some 44, (.call ⟨(.value (.func 12)), #[(.tmp 40), (.tmp 43)], #[27, 27]⟩), 4, some (39, true)⟩,
      ⟨some 45, (.pick (.tmp 39) (.tmp 44) (.const (.bool false))), 4, none⟩,
      ⟨some 0, (.assign (.tmp 45)), 4, none⟩])
    .ret))))
theorem C9 {args : List AV} {r : AV} (hn : args.length ≤ 46) (h : vc Tryz.prog T [] A9 (Fin T [(.tmp 0)] r) ⟨envOf 0 args, []⟩) : CallP Tryz.prog 9 args r :=
  callP_of tok mixed Tryz.func9 (by kernel_rfl) (by kernel_rfl) (by kernel_rfl : Tryz.f9.ntmps = 46) (by kernel_rfl : Tryz.f9.body.bind (strip 46 (fun _ => [])) = some A9) hn h
def A12 : ACode :=
  (.seq (.reg [] [⟨some 4, (.assign (.const (.bool false))), 4, none⟩])
    (.seq (.seq (.reg [] [⟨some 6, (.move (.tmp 0)), 27, none⟩,
      ⟨some 7, (.call ⟨(.builtin .len), #[(.tmp 6)], #[27]⟩), 3, none⟩,
      ⟨some 8, (.move (.tmp 1)), 27, none⟩,
      ⟨some 9, (.call ⟨(.builtin .len), #[(.tmp 8)], #[27]⟩), 3, none⟩,
      ⟨some 10, (.binOp .neq 3 (.tmp 7) (.tmp 9) 3), 4, none⟩])
    (.cond (.tmp 10)
    (.seq (.reg [] [⟨some 4, (.assign (.const (.bool false))), 4, none⟩])
    .ret)
    .skip))
    (.seq (.seq (.reg [] [⟨some 5, (.assign (.const (.int .i64 0))), 3, none⟩])
    (.block 0 (.loop (.seq (.seq (.reg [] [⟨some 11, (.move (.tmp 5)), 3, none⟩,
      ⟨some 12, (.move (.tmp 0)), 27, none⟩,
      ⟨some 13, (.call ⟨(.builtin .len), #[(.tmp 12)], #[27]⟩), 3, none⟩,
      ⟨some 14, (.binOp .lss 3 (.tmp 11) (.tmp 13) 3), 4, none⟩])
    (.cond (.tmp 14)
    .skip
    (.exit 0)))
    (.seq (.block 1 (.seq (.draw [] [⟨some 17, (.move (.tmp 0)), 27, none⟩,
      ⟨some 18, (.move (.tmp 5)), 3, none⟩,
      ⟨some 19, (.indexAddr 27 (.tmp 17) (.tmp 18)), 0, none⟩,
      ⟨some 20, (.load 23 (.tmp 19)), 23, none⟩,
      ⟨some 21, (.move (.tmp 1)), 27, none⟩,
      ⟨some 22, (.move (.tmp 5)), 3, none⟩,
      ⟨some 23, (.indexAddr 27 (.tmp 21) (.tmp 22)), 0, none⟩,
      ⟨some 24, (.load 23 (.tmp 23)), 23, none⟩,
      ⟨some 25, (.call ⟨(.value (.func 32)), #[(.tmp 20), (.tmp 24)], #[23, 23]⟩), 4, none⟩,
      ⟨some 26, (.unOp .not 4 (.tmp 25)), 4, none⟩] [(0, 1), (0, 4), (1, 4), (2, 4), (3, 4), (0, 5), (1, 5), (2, 5), (3, 5), (4, 5), (0, 6), (1, 6), (2, 6), (3, 6), (0, 7), (1, 7), (2, 7), (3, 7)])
    (.cond (.tmp 26)
    (.seq (.reg [] [⟨some 4, (.assign (.const (.bool false))), 4, none⟩])
    .ret)
    .skip)))
    (.reg [] [⟨some 15, (.move (.tmp 5)), 3, none⟩,
      ⟨some 16, (.binOp .add 3 (.tmp 15) (.const (.int .i64 1)) 3), 3, none⟩,
      ⟨some 5, (.assign (.tmp 16)), 3, none⟩]))))))
    (.seq (.reg [] [⟨some 4, (.assign (.const (.bool true))), 4, none⟩])
    .ret))))
theorem C12 {args : List AV} {r : AV} (hn : args.length ≤ 27) (h : vc Tryz.prog T [] A12 (Fin T [(.tmp 4)] r) ⟨envOf 0 args, []⟩) : CallP Tryz.prog 12 args r :=
  callP_of tok mixed Tryz.func12 (by kernel_rfl) (by kernel_rfl) (by kernel_rfl : Tryz.f12.ntmps = 27) (by kernel_rfl : Tryz.f12.body.bind (strip 27 (fun _ => [])) = some A12) hn h
def A10 : ACode :=
  (.seq (.reg [] [⟨some 4, (.assign (.const (.slice none 0 0))), 27, none⟩,
      ⟨some 5, (.assign (.const (.int .i64 0))), 28, none⟩])
    (.seq (.reg [] [⟨some 9, (.move (.tmp 0)), 22, none⟩,
      ⟨some 10, (.move (.tmp 1)), 23, none⟩,
      ⟨some 11, (.call ⟨(.value (.func 35)), #[(.tmp 9), (.tmp 10)], #[22, 23]⟩), 49, none⟩,
      ⟨some 8, (.move (.tmp 11)), 49, none⟩,
      ⟨some 12, (.extract (.tmp 8) 0), 48, none⟩,
      ⟨some 13, (.extract (.tmp 8) 1), 28, none⟩,
      ⟨some 6, (.assign (.tmp 12)), 48, none⟩,
      ⟨some 7, (.assign (.tmp 13)), 28, none⟩])
    (.seq (.seq (.reg [] [⟨some 14, (.move (.tmp 7)), 28, none⟩,
      ⟨some 15, (.binOp .neq 28 (.tmp 14) (.const (.int .i64 0)) 28), 4, none⟩])
    (.cond (.tmp 15)
    (.seq (.reg [] [⟨some 16, (.move (.tmp 7)), 28, none⟩,
      ⟨some 4, (.assign (.const (.slice none 0 0))), 27, none⟩,
      ⟨some 5, (.assign (.tmp 16)), 28, none⟩])
    .ret)
    .skip))
    (.seq (.reg [] [⟨some 17, (.move (.tmp 6)), 48, none⟩,
      ⟨some 18, (.call ⟨(.value (.func 36)), #[(.tmp 17)], #[48]⟩), 27, none⟩,
      ⟨some 4, (.assign (.tmp 18)), 27, none⟩,
      ⟨some 5, (.assign (.const (.int .i64 0))), 28, none⟩])
    .ret))))
theorem C10 {args : List AV} {r : AV} (hn : args.length ≤ 19) (h : vc Tryz.prog T [] A10 (Fin T [(.tmp 4), (.tmp 5)] r) ⟨envOf 0 args, []⟩) : CallP Tryz.prog 10 args r :=
  callP_of tok mixed Tryz.func10 (by kernel_rfl) (by kernel_rfl) (by kernel_rfl : Tryz.f10.ntmps = 19) (by kernel_rfl : Tryz.f10.body.bind (strip 19 (fun _ => [])) = some A10) hn h
def A35 : ACode :=
  (.seq (.reg [] [⟨some 4, (.assign (.const (.pointer none))), 48, none⟩,
      ⟨some 5, (.assign (.const (.int .i64 0))), 28, none⟩])
    (.seq (.seq (.reg [] [⟨some 7, (.move (.tmp 0)), 22, none⟩,
      ⟨some 8, (.move (.tmp 1)), 23, none⟩,
      ⟨some 9, (.buildSlice 27 1 #[(0, (.tmp 8))]), 27, none⟩,
      ⟨some 10, (.call ⟨(.value (.func 74)), #[(.tmp 7), (.tmp 9)], #[22, 27]⟩), 28, none⟩,
      ⟨some 6, (.assign (.tmp 10)), 28, none⟩])
    (.seq (.reg [] [⟨some 11, (.move (.tmp 6)), 28, none⟩,
      ⟨some 12, (.binOp .neq 28 (.tmp 11) (.const (.int .i64 0)) 28), 4, none⟩])
    (.cond (.tmp 12)
    (.seq (.reg [] [⟨some 13, (.move (.tmp 6)), 28, none⟩,
      ⟨some 4, (.assign (.const (.pointer none))), 48, none⟩,
      ⟨some 5, (.assign (.tmp 13)), 28, none⟩])
    .ret)
    .skip)))
    (.seq (.reg [] [⟨some 14, (.move (.tmp 0)), 22, none⟩,
      ⟨some 15, (.move (.tmp 1)), 23, none⟩,
      ⟨some 16, (.call ⟨(.value (.func 75)), #[(.tmp 14), (.tmp 15)], #[22, 23]⟩), 49, none⟩,
      ⟨some 17, (.extract (.tmp 16) 0), 48, none⟩,
      ⟨some 18, (.extract (.tmp 16) 1), 28, none⟩,
      ⟨some 4, (.assign (.tmp 17)), 48, none⟩,
      ⟨some 5, (.assign (.tmp 18)), 28, none⟩])
    .ret)))
theorem C35 {args : List AV} {r : AV} (hn : args.length ≤ 19) (h : vc Tryz.prog T [] A35 (Fin T [(.tmp 4), (.tmp 5)] r) ⟨envOf 0 args, []⟩) : CallP Tryz.prog 35 args r :=
  callP_of tok mixed Tryz.func35 (by kernel_rfl) (by kernel_rfl) (by kernel_rfl : Tryz.f35.ntmps = 19) (by kernel_rfl : Tryz.f35.body.bind (strip 19 (fun _ => [])) = some A35) hn h
def A40 : ACode :=
  (.seq (.reg [] [⟨some 2, (.assign (.const (.slice none 0 0))), 27, none⟩])
    (.seq (.reg [] [⟨some 3, (.move (.tmp 0)), 27, none⟩,
      ⟨some 4, (.call ⟨(.value (.func 58)), #[(.tmp 3), (.func 59)], #[27, 82]⟩), 0, none⟩])
    (.seq (.reg [] [⟨some 5, (.move (.tmp 0)), 27, none⟩,
      ⟨some 6, (.call ⟨(.value (.func 60)), #[(.tmp 5), (.func 49)], #[27, 40]⟩), 27, none⟩,
      ⟨some 2, (.assign (.tmp 6)), 27, none⟩])
    .ret)))
theorem CL40 {pre suf : List AV} {sz : Nat} {els els' : List AV} {r : LRet} (hn : (pre ++ .sl lid 0 0 els.length :: suf).length ≤ 7) (h : vc Tryz.prog T [] A40 (FinL T [(.tmp 2)] sz r els') ⟨envOf 0 (pre ++ .sl lid 0 0 els.length :: suf), [(lid, some ⟨sz, els, 0, false⟩)]⟩) : CallL Tryz.prog 40 pre sz els suf r els' :=
  callL_of tok mixed Tryz.func40 (by kernel_rfl) (by kernel_rfl) (by kernel_rfl : Tryz.f40.ntmps = 7) (by kernel_rfl : Tryz.f40.body.bind (strip 7 (fun _ => [])) = some A40) hn h
def A37 : ACode :=
  (.seq (.reg [] [⟨some 4, (.alloc 53), 0, none⟩,
      ⟨some 5, (.assign (.const (.int .i64 0))), 28, none⟩])
    (.seq (.seq (.reg [] [⟨some 9, (.move (.tmp 0)), 22, none⟩,
      ⟨some 10, (.move (.tmp 1)), 23, none⟩,
      ⟨some 11, (.call ⟨(.value (.func 77)), #[(.tmp 9), (.tmp 10), (.const (.slice none 0 0))], #[22, 23, 23]⟩), 28, none⟩,
      ⟨some 6, (.assign (.tmp 11)), 28, none⟩])
    (.seq (.reg [] [⟨some 12, (.move (.tmp 6)), 28, none⟩,
      ⟨some 13, (.binOp .neq 28 (.tmp 12) (.const (.int .i64 0)) 28), 4, none⟩])
    (.cond (.tmp 13)
    (.seq (.reg [] [⟨some 14, (.build 53 #[]), 53, none⟩,
      ⟨some 15, (.move (.tmp 6)), 28, none⟩,
      ⟨none, (.store 53 (.tmp 4) (.tmp 14)), 0, none⟩,
      ⟨some 5, (.assign (.tmp 15)), 28, none⟩])
    .ret)
    .skip)))
    (.seq (.reg [] [⟨some 17, (.move (.tmp 0)), 22, none⟩,
      ⟨some 18, (.move (.tmp 1)), 23, none⟩,
      ⟨some 19, (.call ⟨(.value (.func 78)), #[(.tmp 17), (.tmp 18)], #[22, 23]⟩), 99, none⟩,
      ⟨some 16, (.move (.tmp 19)), 99, none⟩,
      ⟨some 20, (.extract (.tmp 16) 0), 53, none⟩,
      ⟨some 21, (.extract (.tmp 16) 1), 4, none⟩,
      ⟨some 7, (.alloc 53), 0, none⟩,
      ⟨none, (.store 53 (.tmp 7) (.tmp 20)), 0, none⟩,
      ⟨some 8, (.assign (.tmp 21)), 4, none⟩])
    (.seq (.seq (.reg [] [⟨some 22, (.move (.tmp 8)), 4, none⟩,
      ⟨some 23, (.unOp .not 4 (.tmp 22)), 4, none⟩])
    (.cond (.tmp 23)
    (.seq (.reg [] [⟨some 24, (.build 53 #[]), 53, none⟩,
      ⟨none, (.store 53 (.tmp 4) (.tmp 24)), 0, none⟩,
      ⟨some 5, (.assign (.const (.int .i64 3))), 28, none⟩])
    .ret)
    .skip))
    (.seq (.reg [] [⟨some 25, (.load 53 (.tmp 7)), 53, none⟩,
      ⟨none, (.store 53 (.tmp 4) (.tmp 25)), 0, none⟩,
      ⟨some 5, (.assign (.const (.int .i64 0))), 28, none⟩])
    .ret)))))
theorem C37 {args : List AV} {r : AV} (hn : args.length ≤ 26) (h : vc Tryz.prog T [] A37 (Fin T [(.cell 4 53), (.tmp 5)] r) ⟨envOf 0 args, []⟩) : CallP Tryz.prog 37 args r :=
  callP_of tok mixed Tryz.func37 (by kernel_rfl) (by kernel_rfl) (by kernel_rfl : Tryz.f37.ntmps = 26) (by kernel_rfl : Tryz.f37.body.bind (strip 26 (fun _ => [])) = some A37) hn h
def A79 : ACode :=
  (.seq (.reg [] [⟨some 4, (.assign (.const (.slice none 0 0))), 27, none⟩])
    (.seq (.reg [] [⟨some 5, (.assign (.const (.int .i64 0))), 3, none⟩])
    (.seq (.block 0 (.loop (.seq (.seq (.reg [] [⟨some 7, (.move (.tmp 5)), 3, none⟩,
      ⟨some 8, (.move (.tmp 0)), 27, none⟩,
      ⟨some 9, (.call ⟨(.builtin .len), #[(.tmp 8)], #[27]⟩), 3, none⟩,
      ⟨some 10, (.binOp .lss 3 (.tmp 7) (.tmp 9) 3), 4, none⟩,
      ⟨some 11, (.move (.tmp 10)), 4, none⟩,
      ⟨some 12, (.move (.tmp 0)), 27, some (11, true)⟩,
      ⟨some 13, (.move (.tmp 5)), 3, some (11, true)⟩,
      ⟨some 14, (.indexAddr 27 (.tmp 12) (.tmp 13)), 0, some (11, true)⟩,
      ⟨some 15, (.load 23 (.tmp 14)), 23, some (11, true)⟩,
      ⟨some 16, (.move (.tmp 1)), 23, some (11, true)⟩,
      ⟨some 17, (.call ⟨(.value (.func 105)), #[(.tmp 15), (.tmp 16)], #[23, 23]⟩), 4, some (11, true)⟩,
      ⟨some 18, (.pick (.tmp 11) (.tmp 17) (.const (.bool false))), 4, none⟩])
    (.cond (.tmp 18)
    .skip
    (.exit 0)))
    (.block 1 (.reg [] [⟨some 19, (.move (.tmp 5)), 3, none⟩,
      ⟨some 20, (.binOp .add 3 (.tmp 19) (.const (.int .i64 1)) 3), 3, none⟩,
      ⟨some 5, (.assign (.tmp 20)), 3, none⟩])))))
    (.seq (.seq (.reg [] [⟨some 21, (.move (.tmp 5)), 3, none⟩,
      ⟨some 22, (.move (.tmp 0)), 27, none⟩,
      ⟨some 23, (.call ⟨(.builtin .len), #[(.tmp 22)], #[27]⟩), 3, none⟩,
      ⟨some 24, (.binOp .lss 3 (.tmp 21) (.tmp 23) 3), 4, none⟩,
      ⟨some 25, (.move (.tmp 24)), 4, none⟩,
      ⟨some 26, (.move (.tmp 0)), 27, some (25, true)⟩,
      ⟨some 27, (.move (.tmp 5)), 3, some (25, true)⟩,
      ⟨some 28, (.indexAddr 27 (.tmp 26) (.tmp 27)), 0, some (25, true)⟩,
      ⟨some 29, (.load 23 (.tmp 28)), 23, some (25, true)⟩,
      ⟨some 30, (.move (.tmp 1)), 23, some (25, true)⟩,
      ⟨some 31, (.call ⟨(.value (.func 32)), #[(.tmp 29), (.tmp 30)], #[23, 23]⟩), 4, some (25, true)⟩,
      ⟨some 32, (.pick (.tmp 25) (.tmp 31) (.const (.bool false))), 4, none⟩])
    (.cond (.tmp 32)
    (.seq (.reg [] [⟨some 33, (.move (.tmp 0)), 27, none⟩,
      ⟨some 4, (.assign (.tmp 33)), 27, none⟩])
    .ret)
    .skip))
    (.seq (.reg [] [⟨some 6, (.assign (.const (.slice none 0 0))), 27, none⟩])
    (.seq (.reg [] [⟨some 34, (.move (.tmp 6)), 27, none⟩,
      ⟨some 35, (.move (.tmp 0)), 27, none⟩,
      ⟨some 36, (.move (.tmp 5)), 3, none⟩,
      ⟨some 37, (.slice 27 (.tmp 35) none (some (.tmp 36)) none), 27, none⟩,
      ⟨some 38, (.call ⟨(.builtin .append), #[(.tmp 34), (.tmp 37)], #[27, 27]⟩), 27, none⟩,
      ⟨some 6, (.assign (.tmp 38)), 27, none⟩])
    (.seq (.reg [] [⟨some 39, (.move (.tmp 6)), 27, none⟩,
      ⟨some 40, (.move (.tmp 1)), 23, none⟩,
      ⟨some 41, (.buildSlice 27 1 #[(0, (.tmp 40))]), 27, none⟩,
      ⟨some 42, (.call ⟨(.builtin .append), #[(.tmp 39), (.tmp 41)], #[27, 27]⟩), 27, none⟩,
      ⟨some 6, (.assign (.tmp 42)), 27, none⟩])
    (.seq (.reg [] [⟨some 43, (.move (.tmp 6)), 27, none⟩,
      ⟨some 44, (.move (.tmp 0)), 27, none⟩,
      ⟨some 45, (.move (.tmp 5)), 3, none⟩,
      ⟨some 46, (.slice 27 (.tmp 44) (some (.tmp 45)) none none), 27, none⟩,
      ⟨some 47, (.call ⟨(.builtin .append), #[(.tmp 43), (.tmp 46)], #[27, 27]⟩), 27, none⟩,
      ⟨some 4, (.assign (.tmp 47)), 27, none⟩])
    .ret))))))))
theorem C79 {args : List AV} {r : AV} (hn : args.length ≤ 48) (h : vc Tryz.prog T [] A79 (Fin T [(.tmp 4)] r) ⟨envOf 0 args, []⟩) : CallP Tryz.prog 79 args r :=
  callP_of tok mixed Tryz.func79 (by kernel_rfl) (by kernel_rfl) (by kernel_rfl : Tryz.f79.ntmps = 48) (by kernel_rfl : Tryz.f79.body.bind (strip 48 (fun _ => [])) = some A79) hn h
def A64 : ACode :=
  (.seq (.reg [] [⟨some 4, (.assign (.const (.slice none 0 0))), 27, none⟩])
    (.seq (.reg [] [⟨some 5, (.assign (.const (.slice none 0 0))), 27, none⟩])
    (.seq (.seq (.reg [] [⟨some 8, (.move (.tmp 0)), 22, none⟩,
      ⟨some 9, (.move (.tmp 1)), 23, none⟩,
      ⟨some 10, (.call ⟨(.value (.func 76)), #[(.tmp 8), (.tmp 9)], #[22, 23]⟩), 96, none⟩,
      ⟨some 11, (.call ⟨(.builtin .len), #[(.tmp 10)], #[96]⟩), 3, none⟩,
      ⟨some 12, (.move (.const (.int .i64 0))), 3, none⟩])
    (.block 0 (.loop (.seq (.reg [] [⟨some 13, (.binOp .lss 3 (.tmp 12) (.tmp 11) 3), 0, none⟩])
    (.seq (.cond (.tmp 13)
    .skip
    (.exit 0))
    (.seq (.block 1 (.seq (.reg [] [⟨some 14, (.indexAddr 96 (.tmp 10) (.tmp 12)), 0, none⟩,
      ⟨some 15, (.load 105 (.tmp 14)), 105, none⟩,
      ⟨some 7, (.alloc 105), 0, none⟩,
      ⟨none, (.store 105 (.tmp 7) (.tmp 15)), 0, none⟩])
    (.reg [] [⟨some 16, (.move (.tmp 5)), 27, none⟩,
      ⟨some 17, (.fieldAddr 105 (.tmp 7) 1), 0, none⟩,
      ⟨some 18, (.load 23 (.tmp 17)), 23, none⟩,
      ⟨some 19, (.buildSlice 27 1 #[(0, (.tmp 18))]), 27, none⟩,
      ⟨some 20, (.call ⟨(.builtin .append), #[(.tmp 16), (.tmp 19)], #[27, 27]⟩), 27, none⟩,
      ⟨some 5, (.assign (.tmp 20)), 27, none⟩])))
    (.reg [] [⟨some 21, (.binOp .add 3 (.tmp 12) (.const (.int .i64 1)) 3), 3, none⟩,
      ⟨some 12, (.move (.tmp 21)), 3, none⟩])))))))
    (.seq (.reg [] [⟨some 22, (.move (.tmp 5)), 27, none⟩,
      ⟨some 23, (.call ⟨(.value (.func 40)), #[(.tmp 22)], #[27]⟩), 27, none⟩,
      ⟨some 4, (.assign (.tmp 23)), 27, none⟩])
    .ret))))
theorem C64 {args : List AV} {r : AV} (hn : args.length ≤ 24) (h : vc Tryz.prog T [] A64 (Fin T [(.tmp 4)] r) ⟨envOf 0 args, []⟩) : CallP Tryz.prog 64 args r :=
  callP_of tok mixed Tryz.func64 (by kernel_rfl) (by kernel_rfl) (by kernel_rfl : Tryz.f64.ntmps = 24) (by kernel_rfl : Tryz.f64.body.bind (strip 24 (fun _ => [])) = some A64) hn h
def A103 : ACode :=
  (.seq (.reg [] [⟨some 4, (.assign (.const (.slice none 0 0))), 27, none⟩])
    (.seq (.reg [] [⟨some 10, (.move (.tmp 0)), 22, none⟩,
      ⟨some 11, (.move (.tmp 1)), 23, none⟩,
      ⟨some 12, (.call ⟨(.value (.func 150)), #[(.tmp 10), (.tmp 11)], #[22, 23]⟩), 162, none⟩,
      ⟨some 9, (.move (.tmp 12)), 162, none⟩,
      ⟨some 13, (.extract (.tmp 9) 0), 58, none⟩,
      ⟨some 14, (.extract (.tmp 9) 1), 27, none⟩,
      ⟨some 5, (.assign (.tmp 13)), 58, none⟩,
      ⟨some 6, (.assign (.tmp 14)), 27, none⟩])
    (.seq (.reg [] [⟨some 7, (.assign (.const (.slice none 0 0))), 27, none⟩])
    (.seq (.seq (.reg [] [⟨some 8, (.assign (.const (.int .i64 0))), 3, none⟩])
    (.block 0 (.loop (.seq (.seq (.reg [] [⟨some 15, (.move (.tmp 8)), 3, none⟩,
      ⟨some 16, (.move (.tmp 6)), 27, none⟩,
      ⟨some 17, (.call ⟨(.builtin .len), #[(.tmp 16)], #[27]⟩), 3, none⟩,
      ⟨some 18, (.binOp .lss 3 (.tmp 15) (.tmp 17) 3), 4, none⟩])
    (.cond (.tmp 18)
    .skip
    (.exit 0)))
    (.seq (.block 1 (.reg [] [⟨some 21, (.move (.tmp 7)), 27, none⟩,
      ⟨some 22, (.move (.tmp 6)), 27, none⟩,
      ⟨some 23, (.move (.tmp 8)), 3, none⟩,
      ⟨some 24, (.indexAddr 27 (.tmp 22) (.tmp 23)), 0, none⟩,
      ⟨some 25, (.load 23 (.tmp 24)), 23, none⟩,
      ⟨some 26, (.call ⟨(.value (.func 79)), #[(.tmp 21), (.tmp 25)], #[27, 23]⟩), 27, none⟩,
      ⟨some 7, (.assign (.tmp 26)), 27, none⟩]))
    (.reg [] [⟨some 19, (.move (.tmp 8)), 3, none⟩,
      ⟨some 20, (.binOp .add 3 (.tmp 19) (.const (.int .i64 1)) 3), 3, none⟩,
      ⟨some 8, (.assign (.tmp 20)), 3, none⟩]))))))
    (.seq (.reg [] [⟨some 27, (.move (.tmp 7)), 27, none⟩,
      ⟨some 4, (.assign (.tmp 27)), 27, none⟩])
    .ret)))))
theorem C103 {args : List AV} {r : AV} (hn : args.length ≤ 28) (h : vc Tryz.prog T [] A103 (Fin T [(.tmp 4)] r) ⟨envOf 0 args, []⟩) : CallP Tryz.prog 103 args r :=
  callP_of tok mixed Tryz.func103 (by kernel_rfl) (by kernel_rfl) (by kernel_rfl : Tryz.f103.ntmps = 28) (by kernel_rfl : Tryz.f103.body.bind (strip 28 (fun _ => [])) = some A103) hn h
def A36 : ACode :=
  (.seq (.reg [] [⟨some 2, (.assign (.const (.slice none 0 0))), 27, none⟩])
    (.seq (.reg [] [⟨some 3, (.assign (.const (.slice none 0 0))), 27, none⟩])
    (.seq (.seq (.reg [] [⟨some 6, (.move (.tmp 0)), 48, none⟩,
      ⟨some 7, (.nilCheck (.tmp 6)), 0, none⟩,
      ⟨some 8, (.fieldAddr 60 (.tmp 7) 1), 0, none⟩,
      ⟨some 9, (.load 27 (.tmp 8)), 27, none⟩,
      ⟨some 10, (.call ⟨(.builtin .len), #[(.tmp 9)], #[27]⟩), 3, none⟩,
      ⟨some 11, (.move (.const (.int .i64 0))), 3, none⟩])
    (.block 0 (.loop (.seq (.reg [] [⟨some 12, (.binOp .lss 3 (.tmp 11) (.tmp 10) 3), 0, none⟩])
    (.seq (.cond (.tmp 12)
    .skip
    (.exit 0))
    (.seq (.block 1 (.seq (.reg [] [⟨some 13, (.indexAddr 27 (.tmp 9) (.tmp 11)), 0, none⟩,
      ⟨some 14, (.load 23 (.tmp 13)), 23, none⟩,
      ⟨some 5, (.assign (.tmp 14)), 23, none⟩])
    (.seq (.reg [] [⟨some 15, (.move (.tmp 0)), 48, none⟩,
      ⟨some 16, (.nilCheck (.tmp 15)), 0, none⟩,
      ⟨some 17, (.fieldAddr 60 (.tmp 16) 0), 0, none⟩,
      ⟨some 18, (.load 22 (.tmp 17)), 22, none⟩,
      ⟨some 19, (.move (.tmp 5)), 23, none⟩,
      ⟨some 20, (.call ⟨(.value (.func 76)), #[(.tmp 18), (.tmp 19)], #[22, 23]⟩), 96, none⟩,
      ⟨some 21, (.call ⟨(.builtin .len), #[(.tmp 20)], #[96]⟩), 3, none⟩,
      ⟨some 22, (.binOp .eql 3 (.tmp 21) (.const (.int .i64 0)) 3), 4, none⟩])
    (.cond (.tmp 22)
    (.reg [] [⟨some 23, (.move (.tmp 3)), 27, none⟩,
      ⟨some 24, (.move (.tmp 5)), 23, none⟩,
      ⟨some 25, (.call ⟨(.value (.func 39)), #[(.tmp 24)], #[23]⟩), 23, none⟩,
      ⟨some 26, (.buildSlice 27 1 #[(0, (.tmp 25))]), 27, none⟩,
      ⟨some 27, (.call ⟨(.builtin .append), #[(.tmp 23), (.tmp 26)], #[27, 27]⟩), 27, none⟩,
      ⟨some 3, (.assign (.tmp 27)), 27, none⟩])
    .skip))))
    (.reg [] [⟨some 28, (.binOp .add 3 (.tmp 11) (.const (.int .i64 1)) 3), 3, none⟩,
      ⟨some 11, (.move (.tmp 28)), 3, none⟩])))))))
    (.seq (.reg [] [⟨some 29, (.move (.tmp 3)), 27, none⟩,
      ⟨some 30, (.call ⟨(.value (.func 40)), #[(.tmp 29)], #[27]⟩), 27, none⟩,
      ⟨some 2, (.assign (.tmp 30)), 27, none⟩])
    .ret))))
theorem C36 {args : List AV} {r : AV} (hn : args.length ≤ 31) (h : vc Tryz.prog T [] A36 (Fin T [(.tmp 2)] r) ⟨envOf 0 args, []⟩) : CallP Tryz.prog 36 args r :=
  callP_of tok mixed Tryz.func36 (by kernel_rfl) (by kernel_rfl) (by kernel_rfl : Tryz.f36.ntmps = 31) (by kernel_rfl : Tryz.f36.body.bind (strip 31 (fun _ => [])) = some A36) hn h
def A65 : ACode :=
  (.seq (.reg [] [⟨some 2, (.assign (.const (.string ⟨#[]⟩))), 9, none⟩])
    (.seq (.reg [] [⟨some 3, (.assign (.const (.slice none 0 0))), 119, none⟩])
    (.seq (.seq (.reg [] [⟨some 6, (.move (.tmp 0)), 23, none⟩,
      ⟨some 7, (.call ⟨(.builtin .len), #[(.tmp 6)], #[23]⟩), 3, none⟩,
      ⟨some 8, (.move (.const (.int .i64 0))), 3, none⟩])
    (.block 0 (.loop (.seq (.reg [] [⟨some 9, (.binOp .lss 3 (.tmp 8) (.tmp 7) 3), 0, none⟩])
    (.seq (.cond (.tmp 9)
    .skip
    (.exit 0))
    (.seq (.block 1 (.seq (.reg [] [⟨some 10, (.indexAddr 23 (.tmp 6) (.tmp 8)), 0, none⟩,
      ⟨some 11, (.load 3 (.tmp 10)), 3, none⟩,
      ⟨some 5, (.assign (.tmp 11)), 3, none⟩])
    (.reg [] [⟨some 12, (.move (.tmp 3)), 119, none⟩,
      ⟨some 13, (.move (.tmp 5)), 3, none⟩,
      ⟨some 14, (.binOp .add 3 (.const (.int .i64 48)) (.tmp 13) 3), 3, none⟩,
      ⟨some 15, (.convert 3 5 (.tmp 14)), 5, none⟩,
      ⟨some 16, (.buildSlice 119 1 #[(0, (.tmp 15))]), 119, none⟩,
      ⟨some 17, (.call ⟨(.builtin .append), #[(.tmp 12), (.tmp 16)], #[119, 119]⟩), 119, none⟩,
      ⟨some 3, (.assign (.tmp 17)), 119, none⟩])))
    (.reg [] [⟨some 18, (.binOp .add 3 (.tmp 8) (.const (.int .i64 1)) 3), 3, none⟩,
      ⟨some 8, (.move (.tmp 18)), 3, none⟩])))))))
    (.seq (.reg [] [⟨some 19, (.move (.tmp 3)), 119, none⟩,
      ⟨some 20, (.convert 119 9 (.tmp 19)), 9, none⟩,
      ⟨some 2, (.assign (.tmp 20)), 9, none⟩])
    .ret))))
theorem C65 {args : List AV} {r : AV} (hn : args.length ≤ 21) (h : vc Tryz.prog T [] A65 (Fin T [(.tmp 2)] r) ⟨envOf 0 args, []⟩) : CallP Tryz.prog 65 args r :=
  callP_of tok mixed Tryz.func65 (by kernel_rfl) (by kernel_rfl) (by kernel_rfl : Tryz.f65.ntmps = 21) (by kernel_rfl : Tryz.f65.body.bind (strip 21 (fun _ => [])) = some A65) hn h
def A75 : ACode :=
  (.seq (.reg [] [⟨some 4, (.assign (.const (.pointer none))), 48, none⟩,
      ⟨some 5, (.assign (.const (.int .i64 0))), 28, none⟩])
    (.seq (.reg [] [⟨some 12, (.move (.tmp 0)), 22, none⟩,
      ⟨some 13, (.move (.tmp 1)), 23, none⟩,
      ⟨some 14, (.buildSlice 27 1 #[(0, (.tmp 13))]), 27, none⟩,
      ⟨some 15, (.makeMap 57 none), 57, none⟩,
      ⟨some 16, (.move (.tmp 1)), 23, none⟩,
      ⟨some 17, (.call ⟨(.value (.func 65)), #[(.tmp 16)], #[23]⟩), 9, none⟩,
      ⟨none, (.insert 57 (.tmp 15) (.tmp 17) (.const (.int .i64 0))), 0, none⟩,
      ⟨some 18, (.move (.tmp 15)), 57, none⟩,
      ⟨some 19, (.buildSlice 23 1 #[(0, (.const (.int .i64 (-1))))]), 23, none⟩,
      ⟨some 20, (.build 103 #[]), 103, none⟩,
      ⟨some 21, (.buildSlice 58 1 #[(0, (.tmp 20))]), 58, none⟩,
      ⟨some 22, (.build 60 #[(0, (.tmp 12)), (1, (.tmp 14)), (2, (.tmp 18)), (3, (.tmp 19)), (4, (.tmp 21))]), 60, none⟩,
      ⟨some 23, (.box 60 (.tmp 22)), 48, none⟩,
      ⟨some 6, (.assign (.tmp 23)), 48, none⟩])
    (.seq (.seq (.reg [] [⟨some 7, (.assign (.const (.int .i64 0))), 3, none⟩])
    (.block 0 (.loop (.seq (.seq (.reg [] [⟨some 24, (.move (.tmp 7)), 3, none⟩,
      ⟨some 25, (.move (.tmp 6)), 48, none⟩,
      ⟨some 26, (.nilCheck (.tmp 25)), 0, none⟩,
      ⟨some 27, (.fieldAddr 60 (.tmp 26) 1), 0, none⟩,
      ⟨some 28, (.load 27 (.tmp 27)), 27, none⟩,
      ⟨some 29, (.call ⟨(.builtin .len), #[(.tmp 28)], #[27]⟩), 3, none⟩,
      ⟨some 30, (.binOp .lss 3 (.tmp 24) (.tmp 29) 3), 4, none⟩])
    (.cond (.tmp 30)
    .skip
    (.exit 0)))
    (.seq (.block 1 (.seq (.reg [] [⟨some 33, (.move (.tmp 0)), 22, none⟩,
      ⟨some 34, (.move (.tmp 6)), 48, none⟩,
      ⟨some 35, (.nilCheck (.tmp 34)), 0, none⟩,
      ⟨some 36, (.fieldAddr 60 (.tmp 35) 1), 0, none⟩,
      ⟨some 37, (.load 27 (.tmp 36)), 27, none⟩,
      ⟨some 38, (.move (.tmp 7)), 3, none⟩,
      ⟨some 39, (.indexAddr 27 (.tmp 37) (.tmp 38)), 0, none⟩,
      ⟨some 40, (.load 23 (.tmp 39)), 23, none⟩,
      ⟨some 41, (.call ⟨(.value (.func 76)), #[(.tmp 33), (.tmp 40)], #[22, 23]⟩), 96, none⟩,
      ⟨some 42, (.call ⟨(.builtin .len), #[(.tmp 41)], #[96]⟩), 3, none⟩,
      ⟨some 43, (.move (.const (.int .i64 0))), 3, none⟩])
    (.block 2 (.loop (.seq (.reg [] [⟨some 44, (.binOp .lss 3 (.tmp 43) (.tmp 42) 3), 0, none⟩])
    (.seq (.cond (.tmp 44)
    .skip
    (.exit 2))
    (.seq (.block 3 (.seq (.reg [] [⟨some 45, (.indexAddr 96 (.tmp 41) (.tmp 43)), 0, none⟩,
      ⟨some 46, (.load 105 (.tmp 45)), 105, none⟩,
      ⟨some 9, (.alloc 105), 0, none⟩,
      ⟨none, (.store 105 (.tmp 9) (.tmp 46)), 0, none⟩])
    (.seq (.seq (.draw [] [⟨some 48, (.move (.tmp 6)), 48, none⟩,
      ⟨some 49, (.nilCheck (.tmp 48)), 0, none⟩,
      ⟨some 50, (.fieldAddr 60 (.tmp 49) 2), 0, none⟩,
      ⟨some 51, (.load 57 (.tmp 50)), 57, none⟩,
      ⟨some 52, (.fieldAddr 105 (.tmp 9) 1), 0, none⟩,
      ⟨some 53, (.load 23 (.tmp 52)), 23, none⟩,
      ⟨some 54, (.call ⟨(.value (.func 65)), #[(.tmp 53)], #[23]⟩), 9, none⟩,
      ⟨some 55, (.lookup 57 (.tmp 51) (.tmp 54) true), 63, none⟩,
      ⟨some 47, (.move (.tmp 55)), 63, none⟩,
      ⟨some 56, (.extract (.tmp 47) 0), 3, none⟩,
      ⟨some 57, (.extract (.tmp 47) 1), 4, none⟩,
      ⟨some 10, (.assign (.tmp 56)), 3, none⟩,
      ⟨some 11, (.assign (.tmp 57)), 4, none⟩] [(0, 4), (1, 4), (2, 4), (3, 4), (0, 5), (1, 5), (2, 5), (3, 5), (0, 6), (1, 6), (2, 6), (3, 6), (9, 10), (10, 11)])
    (.seq (.reg [] [⟨some 58, (.move (.tmp 11)), 4, none⟩])
    (.cond (.tmp 58)
    (.exit 3)
    .skip)))
    (.seq (.seq (.reg [] [⟨some 59, (.move (.tmp 6)), 48, none⟩,
      ⟨some 60, (.nilCheck (.tmp 59)), 0, none⟩,
      ⟨some 61, (.fieldAddr 60 (.tmp 60) 1), 0, none⟩,
      ⟨some 62, (.load 27 (.tmp 61)), 27, none⟩,
      ⟨some 63, (.call ⟨(.builtin .len), #[(.tmp 62)], #[27]⟩), 3, none⟩,
      ⟨some 64, (.binOp .eql 3 (.tmp 63) (.const (.int .i64 300)) 3), 4, none⟩])
    (.cond (.tmp 64)
    (.seq (.reg [] [⟨some 4, (.assign (.const (.pointer none))), 48, none⟩,
      ⟨some 5, (.assign (.const (.int .i64 3))), 28, none⟩])
    .ret)
    .skip))
    (.seq (.draw [] [⟨some 65, (.move (.tmp 6)), 48, none⟩,
      ⟨some 66, (.nilCheck (.tmp 65)), 0, none⟩,
      ⟨some 67, (.fieldAddr 60 (.tmp 66) 2), 0, none⟩,
      ⟨some 68, (.load 57 (.tmp 67)), 57, none⟩,
      ⟨some 69, (.fieldAddr 105 (.tmp 9) 1), 0, none⟩,
      ⟨some 70, (.load 23 (.tmp 69)), 23, none⟩,
      ⟨some 71, (.call ⟨(.value (.func 65)), #[(.tmp 70)], #[23]⟩), 9, none⟩,
      ⟨some 72, (.move (.tmp 6)), 48, none⟩,
      ⟨some 73, (.nilCheck (.tmp 72)), 0, none⟩,
      ⟨some 74, (.fieldAddr 60 (.tmp 73) 1), 0, none⟩,
      ⟨some 75, (.load 27 (.tmp 74)), 27, none⟩,
      ⟨some 76, (.call ⟨(.builtin .len), #[(.tmp 75)], #[27]⟩), 3, none⟩,
      ⟨none, (.mapUpdate 57 (.tmp 68) (.tmp 71) (.tmp 76)), 0, none⟩] [(0, 4), (1, 4), (2, 4), (3, 4), (0, 5), (1, 5), (2, 5), (3, 5), (0, 6), (1, 6), (2, 6), (3, 6), (0, 7), (1, 7), (2, 7), (3, 7), (4, 7), (5, 7), (6, 7), (0, 8), (1, 8), (2, 8), (3, 8), (4, 8), (5, 8), (6, 8), (0, 9), (1, 9), (2, 9), (3, 9), (4, 9), (5, 9), (6, 9), (0, 10), (1, 10), (2, 10), (3, 10), (4, 10), (5, 10), (6, 10), (0, 11), (1, 11), (2, 11), (3, 11), (4, 11), (5, 11), (6, 11)])
    (.draw [] [⟨some 77, (.move (.tmp 6)), 48, none⟩,
      ⟨some 78, (.move (.tmp 6)), 48, none⟩,
      ⟨some 79, (.move (.tmp 6)), 48, none⟩,
      ⟨some 80, (.move (.tmp 6)), 48, none⟩,
      ⟨some 81, (.nilCheck (.tmp 80)), 0, none⟩,
      ⟨some 82, (.fieldAddr 60 (.tmp 81) 1), 0, none⟩,
      ⟨some 83, (.load 27 (.tmp 82)), 27, none⟩,
      ⟨some 84, (.fieldAddr 105 (.tmp 9) 1), 0, none⟩,
      ⟨some 85, (.load 23 (.tmp 84)), 23, none⟩,
      ⟨some 86, (.buildSlice 27 1 #[(0, (.tmp 85))]), 27, none⟩,
      ⟨some 87, (.call ⟨(.builtin .append), #[(.tmp 83), (.tmp 86)], #[27, 27]⟩), 27, none⟩,
      ⟨some 88, (.move (.tmp 6)), 48, none⟩,
      ⟨some 89, (.nilCheck (.tmp 88)), 0, none⟩,
      ⟨some 90, (.fieldAddr 60 (.tmp 89) 3), 0, none⟩,
      ⟨some 91, (.load 23 (.tmp 90)), 23, none⟩,
      ⟨some 92, (.move (.tmp 7)), 3, none⟩,
      ⟨some 93, (.buildSlice 23 1 #[(0, (.tmp 92))]), 23, none⟩,
      ⟨some 94, (.call ⟨(.builtin .append), #[(.tmp 91), (.tmp 93)], #[23, 23]⟩), 23, none⟩,
      ⟨some 95, (.move (.tmp 6)), 48, none⟩,
      ⟨some 96, (.nilCheck (.tmp 95)), 0, none⟩,
      ⟨some 97, (.fieldAddr 60 (.tmp 96) 4), 0, none⟩,
      ⟨some 98, (.load 58 (.tmp 97)), 58, none⟩,
      ⟨some 99, (.fieldAddr 105 (.tmp 9) 0), 0, none⟩,
      ⟨some 100, (.load 103 (.tmp 99)), 103, none⟩,
      ⟨some 101, (.buildSlice 58 1 #[(0, (.tmp 100))]), 58, none⟩,
      ⟨some 102, (.call ⟨(.builtin .append), #[(.tmp 98), (.tmp 101)], #[58, 58]⟩), 58, none⟩,
      ⟨some 103, (.nilCheck (.tmp 77)), 0, none⟩,
      ⟨some 104, (.fieldAddr 60 (.tmp 103) 1), 0, none⟩,
      ⟨none, (.store 27 (.tmp 104) (.tmp 87)), 0, none⟩,
      ⟨some 105, (.nilCheck (.tmp 78)), 0, none⟩,
      ⟨some 106, (.fieldAddr 60 (.tmp 105) 3), 0, none⟩,
      ⟨none, (.store 23 (.tmp 106) (.tmp 94)), 0, none⟩,
      ⟨some 107, (.nilCheck (.tmp 79)), 0, none⟩,
      ⟨some 108, (.fieldAddr 60 (.tmp 107) 4), 0, none⟩,
      ⟨none, (.store 58 (.tmp 108) (.tmp 102)), 0, none⟩] [(0, 1), (0, 2), (1, 2), (0, 3), (1, 3), (2, 3), (0, 4), (1, 4), (2, 4), (0, 5), (1, 5), (2, 5), (0, 6), (1, 6), (2, 6), (0, 7), (1, 7), (2, 7), (3, 7), (4, 7), (5, 7), (6, 7), (0, 8), (1, 8), (2, 8), (3, 8), (4, 8), (5, 8), (6, 8), (0, 9), (1, 9), (2, 9), (3, 9), (4, 9), (5, 9), (6, 9), (0, 10), (1, 10), (2, 10), (0, 11), (1, 11), (2, 11), (3, 11), (4, 11), (5, 11), (6, 11), (7, 11), (8, 11), (9, 11), (10, 11), (0, 12), (1, 12), (2, 12), (3, 12), (4, 12), (5, 12), (6, 12), (7, 12), (8, 12), (9, 12), (10, 12), (0, 13), (1, 13), (2, 13), (3, 13), (4, 13), (5, 13), (6, 13), (7, 13), (8, 13), (9, 13), (10, 13), (0, 14), (1, 14), (2, 14), (3, 14), (4, 14), (5, 14), (6, 14), (7, 14), (8, 14), (9, 14), (10, 14), (0, 15), (1, 15), (2, 15), (3, 15), (4, 15), (5, 15), (6, 15), (7, 15), (8, 15), (9, 15), (10, 15), (11, 15), (12, 15), (13, 15), (14, 15), (0, 16), (1, 16), (2, 16), (3, 16), (4, 16), (5, 16), (6, 16), (7, 16), (8, 16), (9, 16), (10, 16), (11, 16), (12, 16), (13, 16), (14, 16), (0, 17), (1, 17), (2, 17), (0, 18), (1, 18), (2, 18), (3, 18), (4, 18), (5, 18), (6, 18), (7, 18), (8, 18), (9, 18), (10, 18), (11, 18), (12, 18), (13, 18), (14, 18), (15, 18), (16, 18), (17, 18), (0, 19), (1, 19), (2, 19), (3, 19), (4, 19), (5, 19), (6, 19), (7, 19), (8, 19), (9, 19), (10, 19), (11, 19), (12, 19), (13, 19), (14, 19), (15, 19), (16, 19), (17, 19), (0, 20), (1, 20), (2, 20), (3, 20), (4, 20), (5, 20), (6, 20), (7, 20), (8, 20), (9, 20), (10, 20), (11, 20), (12, 20), (13, 20), (14, 20), (15, 20), (16, 20), (17, 20), (0, 21), (1, 21), (2, 21), (3, 21), (4, 21), (5, 21), (6, 21), (7, 21), (8, 21), (9, 21), (10, 21), (11, 21), (12, 21), (13, 21), (14, 21), (15, 21), (16, 21), (17, 21), (0, 22), (1, 22), (2, 22), (3, 22), (4, 22), (5, 22), (6, 22), (7, 22), (8, 22), (9, 22), (10, 22), (11, 22), (12, 22), (13, 22), (14, 22), (15, 22), (16, 22), (17, 22), (18, 22), (19, 22), (20, 22), (21, 22), (0, 23), (1, 23), (2, 23), (3, 23), (4, 23), (5, 23), (6, 23), (7, 23), (8, 23), (9, 23), (10, 23), (11, 23), (12, 23), (13, 23), (14, 23), (15, 23), (16, 23), (17, 23), (18, 23), (19, 23), (20, 23), (21, 23), (0, 24), (1, 24), (2, 24), (3, 24), (4, 24), (5, 24), (6, 24), (7, 24), (8, 24), (9, 24), (10, 24), (11, 24), (12, 24), (13, 24), (14, 24), (15, 24), (16, 24), (17, 24), (18, 24), (19, 24), (20, 24), (21, 24), (0, 25), (1, 25), (2, 25), (1, 26), (2, 26), (1, 27), (2, 27), (1, 28), (2, 28), (2, 29), (2, 30), (2, 31)]))))))
    (.reg [] [⟨some 109, (.binOp .add 3 (.tmp 43) (.const (.int .i64 1)) 3), 3, none⟩,
      ⟨some 43, (.move (.tmp 109)), 3, none⟩]))))))))
    (.reg [] [⟨some 31, (.move (.tmp 7)), 3, none⟩,
      ⟨some 32, (.binOp .add 3 (.tmp 31) (.const (.int .i64 1)) 3), 3, none⟩,
      ⟨some 7, (.assign (.tmp 32)), 3, none⟩]))))))
    (.seq (.reg [] [⟨some 110, (.move (.tmp 6)), 48, none⟩,
      ⟨some 4, (.assign (.tmp 110)), 48, none⟩,
      ⟨some 5, (.assign (.const (.int .i64 0))), 28, none⟩])
    .ret))))
def A104 : ACode :=
  (.seq (.reg [] [⟨some 4, (.assign (.const (.int .i64 0))), 3, none⟩])
    (.seq (.seq (.reg [] [⟨some 5, (.assign (.const (.int .i64 0))), 3, none⟩])
    (.block 0 (.loop (.seq (.seq (.reg [] [⟨some 6, (.move (.tmp 5)), 3, none⟩,
      ⟨some 7, (.move (.tmp 0)), 27, none⟩,
      ⟨some 8, (.call ⟨(.builtin .len), #[(.tmp 7)], #[27]⟩), 3, none⟩,
      ⟨some 9, (.binOp .lss 3 (.tmp 6) (.tmp 8) 3), 4, none⟩])
    (.cond (.tmp 9)
    .skip
    (.exit 0)))
    (.seq (.block 1 (.seq (.reg [] [⟨some 12, (.move (.tmp 0)), 27, none⟩,
      ⟨some 13, (.move (.tmp 5)), 3, none⟩,
      ⟨some 14, (.indexAddr 27 (.tmp 12) (.tmp 13)), 0, none⟩,
      ⟨some 15, (.load 23 (.tmp 14)), 23, none⟩,
      ⟨some 16, (.move (.tmp 1)), 23, none⟩,
      ⟨some 17, (.call ⟨(.value (.func 32)), #[(.tmp 15), (.tmp 16)], #[23, 23]⟩), 4, none⟩])
    (.cond (.tmp 17)
    (.seq (.reg [] [⟨some 18, (.move (.tmp 5)), 3, none⟩,
      ⟨some 4, (.assign (.tmp 18)), 3, none⟩])
    .ret)
    .skip)))
    (.reg [] [⟨some 10, (.move (.tmp 5)), 3, none⟩,
      ⟨some 11, (.binOp .add 3 (.tmp 10) (.const (.int .i64 1)) 3), 3, none⟩,
      ⟨some 5, (.assign (.tmp 11)), 3, none⟩]))))))
    (.seq (.reg [] [⟨some 4, (.assign (.const (.int .i64 (-1)))), 3, none⟩])
    .ret)))
theorem C104 {args : List AV} {r : AV} (hn : args.length ≤ 19) (h : vc Tryz.prog T [] A104 (Fin T [(.tmp 4)] r) ⟨envOf 0 args, []⟩) : CallP Tryz.prog 104 args r :=
  callP_of tok mixed Tryz.func104 (by kernel_rfl) (by kernel_rfl) (by kernel_rfl : Tryz.f104.ntmps = 19) (by kernel_rfl : Tryz.f104.body.bind (strip 19 (fun _ => [])) = some A104) hn h
def A59 : ACode :=
  (.seq (.reg [] [⟨some 4, (.assign (.const (.int .i64 0))), 3, none⟩])
    (.seq (.seq (.reg [] [⟨some 9, (.move (.tmp 0)), 23, none⟩,
      ⟨some 10, (.call ⟨(.builtin .len), #[(.tmp 9)], #[23]⟩), 3, none⟩,
      ⟨some 11, (.move (.const (.int .i64 0))), 3, none⟩])
    (.block 0 (.loop (.seq (.reg [] [⟨some 12, (.binOp .lss 3 (.tmp 11) (.tmp 10) 3), 0, none⟩])
    (.seq (.cond (.tmp 12)
    .skip
    (.exit 0))
    (.seq (.block 1 (.seq (.reg [] [⟨some 13, (.move (.tmp 11)), 3, none⟩,
      ⟨some 14, (.indexAddr 23 (.tmp 9) (.tmp 11)), 0, none⟩,
      ⟨some 15, (.load 3 (.tmp 14)), 3, none⟩,
      ⟨some 5, (.assign (.tmp 13)), 3, none⟩,
      ⟨some 6, (.assign (.tmp 15)), 3, none⟩])
    (.seq (.seq (.reg [] [⟨some 16, (.move (.tmp 5)), 3, none⟩,
      ⟨some 17, (.move (.tmp 1)), 23, none⟩,
      ⟨some 18, (.call ⟨(.builtin .len), #[(.tmp 17)], #[23]⟩), 3, none⟩,
      ⟨some 19, (.binOp .geq 3 (.tmp 16) (.tmp 18) 3), 4, none⟩])
    (.cond (.tmp 19)
    (.seq (.reg [] [⟨some 4, (.assign (.const (.int .i64 1))), 3, none⟩])
    .ret)
    .skip))
    (.seq (.reg [] [⟨some 20, (.move (.tmp 1)), 23, none⟩,
      ⟨some 21, (.move (.tmp 5)), 3, none⟩,
      ⟨some 22, (.indexAddr 23 (.tmp 20) (.tmp 21)), 0, none⟩,
      ⟨some 23, (.load 3 (.tmp 22)), 3, none⟩,
      ⟨some 7, (.assign (.tmp 23)), 3, none⟩])
    (.seq (.reg [] [⟨some 24, (.move (.tmp 6)), 3, none⟩,
      ⟨some 25, (.move (.tmp 7)), 3, none⟩,
      ⟨some 26, (.call ⟨(.value (.func 96)), #[(.tmp 24), (.tmp 25)], #[3, 3]⟩), 3, none⟩,
      ⟨some 8, (.assign (.tmp 26)), 3, none⟩])
    (.seq (.reg [] [⟨some 27, (.move (.tmp 8)), 3, none⟩,
      ⟨some 28, (.binOp .neq 3 (.tmp 27) (.const (.int .i64 0)) 3), 4, none⟩])
    (.cond (.tmp 28)
    (.seq (.reg [] [⟨some 29, (.move (.tmp 8)), 3, none⟩,
      ⟨some 4, (.assign (.tmp 29)), 3, none⟩])
    .ret)
    .skip)))))))
    (.reg [] [⟨some 30, (.binOp .add 3 (.tmp 11) (.const (.int .i64 1)) 3), 3, none⟩,
      ⟨some 11, (.move (.tmp 30)), 3, none⟩])))))))
    (.seq (.seq (.reg [] [⟨some 31, (.move (.tmp 0)), 23, none⟩,
      ⟨some 32, (.call ⟨(.builtin .len), #[(.tmp 31)], #[23]⟩), 3, none⟩,
      ⟨some 33, (.move (.tmp 1)), 23, none⟩,
      ⟨some 34, (.call ⟨(.builtin .len), #[(.tmp 33)], #[23]⟩), 3, none⟩,
      ⟨some 35, (.binOp .lss 3 (.tmp 32) (.tmp 34) 3), 4, none⟩])
    (.cond (.tmp 35)
    (.seq (.reg [] [⟨some 4, (.assign (.const (.int .i64 (-1)))), 3, none⟩])
    .ret)
    .skip))
    (.seq (.reg [] [⟨some 4, (.assign (.const (.int .i64 0))), 3, none⟩])
    .ret))))
theorem C59 {args : List AV} {r : AV} (hn : args.length ≤ 36) (h : vc Tryz.prog T [] A59 (Fin T [(.tmp 4)] r) ⟨envOf 0 args, []⟩) : CallP Tryz.prog 59 args r :=
  callP_of tok mixed Tryz.func59 (by kernel_rfl) (by kernel_rfl) (by kernel_rfl : Tryz.f59.ntmps = 36) (by kernel_rfl : Tryz.f59.body.bind (strip 36 (fun _ => [])) = some A59) hn h
def A60 : ACode :=
  (.seq (.reg [] [⟨some 4, (.assign (.const (.slice none 0 0))), 27, none⟩])
    (.seq (.seq (.reg [] [⟨some 8, (.move (.tmp 0)), 27, none⟩,
      ⟨some 9, (.call ⟨(.builtin .len), #[(.tmp 8)], #[27]⟩), 3, none⟩,
      ⟨some 10, (.binOp .lss 3 (.tmp 9) (.const (.int .i64 2)) 3), 4, none⟩])
    (.cond (.tmp 10)
    (.seq (.reg [] [⟨some 11, (.move (.tmp 0)), 27, none⟩,
      ⟨some 4, (.assign (.tmp 11)), 27, none⟩])
    .ret)
    .skip))
    (.seq (.seq (.reg [] [⟨some 5, (.assign (.const (.int .i64 1))), 3, none⟩])
    (.block 0 (.loop (.seq (.seq (.reg [] [⟨some 12, (.move (.tmp 5)), 3, none⟩,
      ⟨some 13, (.move (.tmp 0)), 27, none⟩,
      ⟨some 14, (.call ⟨(.builtin .len), #[(.tmp 13)], #[27]⟩), 3, none⟩,
      ⟨some 15, (.binOp .lss 3 (.tmp 12) (.tmp 14) 3), 4, none⟩])
    (.cond (.tmp 15)
    .skip
    (.exit 0)))
    (.seq (.block 1 (.seq (.draw [] [⟨some 18, (.move (.tmp 1)), 40, none⟩,
      ⟨some 19, (.move (.tmp 0)), 27, none⟩,
      ⟨some 20, (.move (.tmp 5)), 3, none⟩,
      ⟨some 21, (.indexAddr 27 (.tmp 19) (.tmp 20)), 0, none⟩,
      ⟨some 22, (.load 23 (.tmp 21)), 23, none⟩,
      ⟨some 23, (.move (.tmp 0)), 27, none⟩,
      ⟨some 24, (.move (.tmp 5)), 3, none⟩,
      ⟨some 25, (.binOp .sub 3 (.tmp 24) (.const (.int .i64 1)) 3), 3, none⟩,
      ⟨some 26, (.indexAddr 27 (.tmp 23) (.tmp 25)), 0, none⟩,
      ⟨some 27, (.load 23 (.tmp 26)), 23, none⟩,
      ⟨some 28, (.call ⟨(.value (.tmp 18)), #[(.tmp 22), (.tmp 27)], #[23, 23]⟩), 4, none⟩] [(0, 1), (0, 2), (1, 2), (0, 3), (0, 4), (0, 5), (1, 5), (2, 5), (3, 5), (4, 5), (0, 6), (1, 6), (2, 6), (3, 6), (4, 6), (5, 6), (0, 7), (1, 7), (2, 7), (3, 7), (4, 7), (5, 7), (0, 8), (1, 8), (2, 8), (3, 8), (4, 8), (0, 9), (1, 9), (2, 9), (3, 9), (4, 9)])
    (.cond (.tmp 28)
    (.seq (.reg [] [⟨some 29, (.move (.tmp 0)), 27, none⟩,
      ⟨some 30, (.move (.tmp 5)), 3, none⟩,
      ⟨some 31, (.slice 27 (.tmp 29) (some (.tmp 30)) none none), 27, none⟩,
      ⟨some 6, (.assign (.tmp 31)), 27, none⟩])
    (.seq (.seq (.reg [] [⟨some 7, (.assign (.const (.int .i64 1))), 3, none⟩])
    (.block 2 (.loop (.seq (.seq (.reg [] [⟨some 32, (.move (.tmp 7)), 3, none⟩,
      ⟨some 33, (.move (.tmp 6)), 27, none⟩,
      ⟨some 34, (.call ⟨(.builtin .len), #[(.tmp 33)], #[27]⟩), 3, none⟩,
      ⟨some 35, (.binOp .lss 3 (.tmp 32) (.tmp 34) 3), 4, none⟩])
    (.cond (.tmp 35)
    .skip
    (.exit 2)))
    (.seq (.block 3 (.seq (.draw [] [⟨some 38, (.move (.tmp 1)), 40, none⟩,
      ⟨some 39, (.move (.tmp 6)), 27, none⟩,
      ⟨some 40, (.move (.tmp 7)), 3, none⟩,
      ⟨some 41, (.indexAddr 27 (.tmp 39) (.tmp 40)), 0, none⟩,
      ⟨some 42, (.load 23 (.tmp 41)), 23, none⟩,
      ⟨some 43, (.move (.tmp 6)), 27, none⟩,
      ⟨some 44, (.move (.tmp 7)), 3, none⟩,
      ⟨some 45, (.binOp .sub 3 (.tmp 44) (.const (.int .i64 1)) 3), 3, none⟩,
      ⟨some 46, (.indexAddr 27 (.tmp 43) (.tmp 45)), 0, none⟩,
      ⟨some 47, (.load 23 (.tmp 46)), 23, none⟩,
      ⟨some 48, (.call ⟨(.value (.tmp 38)), #[(.tmp 42), (.tmp 47)], #[23, 23]⟩), 4, none⟩,
      ⟨some 49, (.unOp .not 4 (.tmp 48)), 4, none⟩] [(0, 1), (0, 2), (1, 2), (0, 3), (0, 4), (0, 5), (1, 5), (2, 5), (3, 5), (4, 5), (0, 6), (1, 6), (2, 6), (3, 6), (4, 6), (5, 6), (0, 7), (1, 7), (2, 7), (3, 7), (4, 7), (5, 7), (0, 8), (1, 8), (2, 8), (3, 8), (4, 8), (0, 9), (1, 9), (2, 9), (3, 9), (4, 9)])
    (.cond (.tmp 49)
    (.seq (.reg [] [⟨some 50, (.move (.tmp 0)), 27, none⟩,
      ⟨some 51, (.move (.tmp 5)), 3, none⟩,
      ⟨some 52, (.move (.tmp 6)), 27, none⟩,
      ⟨some 53, (.move (.tmp 7)), 3, none⟩,
      ⟨some 54, (.indexAddr 27 (.tmp 52) (.tmp 53)), 0, none⟩,
      ⟨some 55, (.load 23 (.tmp 54)), 23, none⟩,
      ⟨some 56, (.indexAddr 27 (.tmp 50) (.tmp 51)), 0, none⟩,
      ⟨none, (.store 23 (.tmp 56) (.tmp 55)), 0, none⟩])
    (.reg [] [⟨some 57, (.move (.tmp 5)), 3, none⟩,
      ⟨some 58, (.binOp .add 3 (.tmp 57) (.const (.int .i64 1)) 3), 3, none⟩,
      ⟨some 5, (.assign (.tmp 58)), 3, none⟩]))
    .skip)))
    (.reg [] [⟨some 36, (.move (.tmp 7)), 3, none⟩,
      ⟨some 37, (.binOp .add 3 (.tmp 36) (.const (.int .i64 1)) 3), 3, none⟩,
      ⟨some 7, (.assign (.tmp 37)), 3, none⟩]))))))
    (.seq (.reg [] [⟨some 59, (.move (.tmp 0)), 27, none⟩,
      ⟨some 60, (.move (.tmp 5)), 3, none⟩,
      ⟨some 61, (.slice 27 (.tmp 59) (some (.tmp 60)) none none), 27, none⟩,
      ⟨none, (.call ⟨(.builtin .clear), #[(.tmp 61)], #[27]⟩), 0, none⟩])
    (.seq (.reg [] [⟨some 62, (.move (.tmp 0)), 27, none⟩,
      ⟨some 63, (.move (.tmp 5)), 3, none⟩,
      ⟨some 64, (.slice 27 (.tmp 62) none (some (.tmp 63)) none), 27, none⟩,
      ⟨some 4, (.assign (.tmp 64)), 27, none⟩])
    .ret))))
    .skip)))
    (.reg [] [⟨some 16, (.move (.tmp 5)), 3, none⟩,
      ⟨some 17, (.binOp .add 3 (.tmp 16) (.const (.int .i64 1)) 3), 3, none⟩,
      ⟨some 5, (.assign (.tmp 17)), 3, none⟩]))))))
    (.seq (.reg [] [⟨some 65, (.move (.tmp 0)), 27, none⟩,
      ⟨some 4, (.assign (.tmp 65)), 27, none⟩])
    .ret))))
theorem CL60 {pre suf : List AV} {sz : Nat} {els els' : List AV} {r : LRet} (hn : (pre ++ .sl lid 0 0 els.length :: suf).length ≤ 66) (h : vc Tryz.prog T [] A60 (FinL T [(.tmp 4)] sz r els') ⟨envOf 0 (pre ++ .sl lid 0 0 els.length :: suf), [(lid, some ⟨sz, els, 0, false⟩)]⟩) : CallL Tryz.prog 60 pre sz els suf r els' :=
  callL_of tok mixed Tryz.func60 (by kernel_rfl) (by kernel_rfl) (by kernel_rfl : Tryz.f60.ntmps = 66) (by kernel_rfl : Tryz.f60.body.bind (strip 66 (fun _ => [])) = some A60) hn h
def A78 : ACode :=
  (.seq (.reg [] [⟨some 4, (.alloc 53), 0, none⟩,
      ⟨some 5, (.assign (.const (.bool false))), 4, none⟩])
    (.seq (.reg [] [⟨some 12, (.move (.tmp 1)), 23, none⟩,
      ⟨some 13, (.buildSlice 27 1 #[(0, (.tmp 12))]), 27, none⟩,
      ⟨some 14, (.buildSlice 23 1 #[(0, (.const (.int .i64 0)))]), 23, none⟩,
      ⟨some 15, (.build 53 #[(0, (.tmp 13)), (2, (.tmp 14))]), 53, none⟩,
      ⟨some 6, (.alloc 53), 0, none⟩,
      ⟨none, (.store 53 (.tmp 6) (.tmp 15)), 0, none⟩])
    (.seq (.seq (.reg [] [⟨some 7, (.assign (.const (.int .i64 0))), 3, none⟩])
    (.block 0 (.loop (.seq (.seq (.reg [] [⟨some 16, (.move (.tmp 7)), 3, none⟩,
      ⟨some 17, (.fieldAddr 53 (.tmp 6) 0), 0, none⟩,
      ⟨some 18, (.load 27 (.tmp 17)), 27, none⟩,
      ⟨some 19, (.call ⟨(.builtin .len), #[(.tmp 18)], #[27]⟩), 3, none⟩,
      ⟨some 20, (.binOp .lss 3 (.tmp 16) (.tmp 19) 3), 4, none⟩])
    (.cond (.tmp 20)
    .skip
    (.exit 0)))
    (.seq (.block 1 (.seq (.reg [] [⟨some 8, (.assign (.const (.slice none 0 0))), 23, none⟩])
    (.seq (.reg [] [⟨some 23, (.move (.tmp 0)), 22, none⟩,
      ⟨some 24, (.fieldAddr 53 (.tmp 6) 0), 0, none⟩,
      ⟨some 25, (.load 27 (.tmp 24)), 27, none⟩,
      ⟨some 26, (.move (.tmp 7)), 3, none⟩,
      ⟨some 27, (.indexAddr 27 (.tmp 25) (.tmp 26)), 0, none⟩,
      ⟨some 28, (.load 23 (.tmp 27)), 23, none⟩,
      ⟨some 29, (.call ⟨(.value (.func 103)), #[(.tmp 23), (.tmp 28)], #[22, 23]⟩), 27, none⟩,
      ⟨some 9, (.assign (.tmp 29)), 27, none⟩])
    (.seq (.seq (.reg [] [⟨some 10, (.assign (.const (.int .i64 0))), 3, none⟩])
    (.block 2 (.loop (.seq (.seq (.reg [] [⟨some 30, (.move (.tmp 10)), 3, none⟩,
      ⟨some 31, (.move (.tmp 9)), 27, none⟩,
      ⟨some 32, (.call ⟨(.builtin .len), #[(.tmp 31)], #[27]⟩), 3, none⟩,
      ⟨some 33, (.binOp .lss 3 (.tmp 30) (.tmp 32) 3), 4, none⟩])
    (.cond (.tmp 33)
    .skip
    (.exit 2)))
    (.seq (.block 3 (.seq (.draw [] [⟨some 36, (.fieldAddr 53 (.tmp 6) 0), 0, none⟩,
      ⟨some 37, (.load 27 (.tmp 36)), 27, none⟩,
      ⟨some 38, (.move (.tmp 9)), 27, none⟩,
      ⟨some 39, (.move (.tmp 10)), 3, none⟩,
      ⟨some 40, (.indexAddr 27 (.tmp 38) (.tmp 39)), 0, none⟩,
      ⟨some 41, (.load 23 (.tmp 40)), 23, none⟩,
      ⟨some 42, (.call ⟨(.value (.func 104)), #[(.tmp 37), (.tmp 41)], #[27, 23]⟩), 3, none⟩,
      ⟨some 11, (.assign (.tmp 42)), 3, none⟩] [(0, 2), (1, 2), (0, 3), (1, 3), (2, 3), (0, 4), (1, 4), (0, 5), (1, 5)])
    (.seq (.seq (.reg [] [⟨some 43, (.move (.tmp 11)), 3, none⟩,
      ⟨some 44, (.binOp .lss 3 (.tmp 43) (.const (.int .i64 0)) 3), 4, none⟩])
    (.cond (.tmp 44)
    (.seq (.reg [] [⟨some 45, (.fieldAddr 53 (.tmp 6) 0), 0, none⟩,
      ⟨some 46, (.load 27 (.tmp 45)), 27, none⟩,
      ⟨some 47, (.call ⟨(.builtin .len), #[(.tmp 46)], #[27]⟩), 3, none⟩,
      ⟨some 11, (.assign (.tmp 47)), 3, none⟩])
    (.seq (.seq (.reg [] [⟨some 48, (.move (.tmp 11)), 3, none⟩,
      ⟨some 49, (.binOp .eql 3 (.tmp 48) (.const (.int .i64 300)) 3), 4, none⟩])
    (.cond (.tmp 49)
    (.seq (.reg [] [⟨some 50, (.build 53 #[]), 53, none⟩,
      ⟨none, (.store 53 (.tmp 4) (.tmp 50)), 0, none⟩,
      ⟨some 5, (.assign (.const (.bool false))), 4, none⟩])
    .ret)
    .skip))
    (.seq (.draw [] [⟨some 51, (.fieldAddr 53 (.tmp 6) 0), 0, none⟩,
      ⟨some 52, (.load 27 (.tmp 51)), 27, none⟩,
      ⟨some 53, (.move (.tmp 9)), 27, none⟩,
      ⟨some 54, (.move (.tmp 10)), 3, none⟩,
      ⟨some 55, (.indexAddr 27 (.tmp 53) (.tmp 54)), 0, none⟩,
      ⟨some 56, (.load 23 (.tmp 55)), 23, none⟩,
      ⟨some 57, (.buildSlice 27 1 #[(0, (.tmp 56))]), 27, none⟩,
      ⟨some 58, (.call ⟨(.builtin .append), #[(.tmp 52), (.tmp 57)], #[27, 27]⟩), 27, none⟩,
      ⟨some 59, (.fieldAddr 53 (.tmp 6) 0), 0, none⟩,
      ⟨none, (.store 27 (.tmp 59) (.tmp 58)), 0, none⟩] [(0, 2), (1, 2), (0, 3), (1, 3), (2, 3), (0, 4), (1, 4), (0, 5), (1, 5), (0, 6), (1, 6)])
    (.draw [] [⟨some 60, (.fieldAddr 53 (.tmp 6) 2), 0, none⟩,
      ⟨some 61, (.load 23 (.tmp 60)), 23, none⟩,
      ⟨some 62, (.fieldAddr 53 (.tmp 6) 2), 0, none⟩,
      ⟨some 63, (.load 23 (.tmp 62)), 23, none⟩,
      ⟨some 64, (.move (.tmp 7)), 3, none⟩,
      ⟨some 65, (.indexAddr 23 (.tmp 63) (.tmp 64)), 0, none⟩,
      ⟨some 66, (.load 3 (.tmp 65)), 3, none⟩,
      ⟨some 67, (.binOp .add 3 (.tmp 66) (.const (.int .i64 1)) 3), 3, none⟩,
      ⟨some 68, (.buildSlice 23 1 #[(0, (.tmp 67))]), 23, none⟩,
      ⟨some 69, (.call ⟨(.builtin .append), #[(.tmp 61), (.tmp 68)], #[23, 23]⟩), 23, none⟩,
      ⟨some 70, (.fieldAddr 53 (.tmp 6) 2), 0, none⟩,
      ⟨none, (.store 23 (.tmp 70) (.tmp 69)), 0, none⟩] [(0, 2), (1, 2), (0, 3), (1, 3), (0, 4), (1, 4), (2, 4), (3, 4), (0, 5), (1, 5), (0, 6), (1, 6), (0, 7), (1, 7), (0, 8), (1, 8)]))))
    .skip))
    (.reg [] [⟨some 71, (.move (.tmp 8)), 23, none⟩,
      ⟨some 72, (.move (.tmp 11)), 3, none⟩,
      ⟨some 73, (.buildSlice 23 1 #[(0, (.tmp 72))]), 23, none⟩,
      ⟨some 74, (.call ⟨(.builtin .append), #[(.tmp 71), (.tmp 73)], #[23, 23]⟩), 23, none⟩,
      ⟨some 8, (.assign (.tmp 74)), 23, none⟩]))))
    (.reg [] [⟨some 34, (.move (.tmp 10)), 3, none⟩,
      ⟨some 35, (.binOp .add 3 (.tmp 34) (.const (.int .i64 1)) 3), 3, none⟩,
      ⟨some 10, (.assign (.tmp 35)), 3, none⟩]))))))
    (.reg [] [⟨some 75, (.fieldAddr 53 (.tmp 6) 1), 0, none⟩,
      ⟨some 76, (.load 27 (.tmp 75)), 27, none⟩,
      ⟨some 77, (.move (.tmp 8)), 23, none⟩,
      ⟨some 78, (.buildSlice 27 1 #[(0, (.tmp 77))]), 27, none⟩,
      ⟨some 79, (.call ⟨(.builtin .append), #[(.tmp 76), (.tmp 78)], #[27, 27]⟩), 27, none⟩,
      ⟨some 80, (.fieldAddr 53 (.tmp 6) 1), 0, none⟩,
      ⟨none, (.store 27 (.tmp 80) (.tmp 79)), 0, none⟩])))))
    (.reg [] [⟨some 21, (.move (.tmp 7)), 3, none⟩,
      ⟨some 22, (.binOp .add 3 (.tmp 21) (.const (.int .i64 1)) 3), 3, none⟩,
      ⟨some 7, (.assign (.tmp 22)), 3, none⟩]))))))
    (.seq (.reg [] [⟨some 81, (.load 53 (.tmp 6)), 53, none⟩,
      ⟨none, (.store 53 (.tmp 4) (.tmp 81)), 0, none⟩,
      ⟨some 5, (.assign (.const (.bool true))), 4, none⟩])
    .ret))))
def A105 : ACode :=
  (.seq (.reg [] [⟨some 4, (.assign (.const (.bool false))), 4, none⟩])
    (.seq (.seq (.reg [] [⟨some 5, (.assign (.const (.int .i64 0))), 3, none⟩])
    (.block 0 (.loop (.seq (.seq (.reg [] [⟨some 6, (.move (.tmp 5)), 3, none⟩,
      ⟨some 7, (.move (.tmp 0)), 23, none⟩,
      ⟨some 8, (.call ⟨(.builtin .len), #[(.tmp 7)], #[23]⟩), 3, none⟩,
      ⟨some 9, (.binOp .lss 3 (.tmp 6) (.tmp 8) 3), 4, none⟩,
      ⟨some 10, (.move (.tmp 9)), 4, none⟩,
      ⟨some 11, (.move (.tmp 5)), 3, some (10, true)⟩,
      ⟨some 12, (.move (.tmp 1)), 23, some (10, true)⟩,
      ⟨some 13, (.call ⟨(.builtin .len), #[(.tmp 12)], #[23]⟩), 3, some (10, true)⟩,
      ⟨some 14, (.binOp .lss 3 (.tmp 11) (.tmp 13) 3), 4, some (10, true)⟩,
      ⟨some 15, (.pick (.tmp 10) (.tmp 14) (.const (.bool false))), 4, none⟩])
    (.cond (.tmp 15)
    .skip
    (.exit 0)))
    (.seq (.block 1 (.seq (.draw [] [⟨some 18, (.move (.tmp 0)), 23, none⟩,
      ⟨some 19, (.move (.tmp 5)), 3, none⟩,
      ⟨some 20, (.indexAddr 23 (.tmp 18) (.tmp 19)), 0, none⟩,
      ⟨some 21, (.load 3 (.tmp 20)), 3, none⟩,
      ⟨some 22, (.move (.tmp 1)), 23, none⟩,
      ⟨some 23, (.move (.tmp 5)), 3, none⟩,
      ⟨some 24, (.indexAddr 23 (.tmp 22) (.tmp 23)), 0, none⟩,
      ⟨some 25, (.load 3 (.tmp 24)), 3, none⟩,
      ⟨some 26, (.binOp .neq 3 (.tmp 21) (.tmp 25) 3), 4, none⟩] [(0, 1), (0, 4), (1, 4), (2, 4), (3, 4), (0, 5), (1, 5), (2, 5), (3, 5), (4, 5), (0, 6), (1, 6), (2, 6), (3, 6), (0, 7), (1, 7), (2, 7), (3, 7)])
    (.cond (.tmp 26)
    (.seq (.draw [] [⟨some 27, (.move (.tmp 0)), 23, none⟩,
      ⟨some 28, (.move (.tmp 5)), 3, none⟩,
      ⟨some 29, (.indexAddr 23 (.tmp 27) (.tmp 28)), 0, none⟩,
      ⟨some 30, (.load 3 (.tmp 29)), 3, none⟩,
      ⟨some 31, (.move (.tmp 1)), 23, none⟩,
      ⟨some 32, (.move (.tmp 5)), 3, none⟩,
      ⟨some 33, (.indexAddr 23 (.tmp 31) (.tmp 32)), 0, none⟩,
      ⟨some 34, (.load 3 (.tmp 33)), 3, none⟩,
      ⟨some 35, (.binOp .lss 3 (.tmp 30) (.tmp 34) 3), 4, none⟩,
      ⟨some 4, (.assign (.tmp 35)), 4, none⟩] [(0, 1), (0, 4), (1, 4), (2, 4), (3, 4), (0, 5), (1, 5), (2, 5), (3, 5), (4, 5), (0, 6), (1, 6), (2, 6), (3, 6), (0, 7), (1, 7), (2, 7), (3, 7)])
    .ret)
    .skip)))
    (.reg [] [⟨some 16, (.move (.tmp 5)), 3, none⟩,
      ⟨some 17, (.binOp .add 3 (.tmp 16) (.const (.int .i64 1)) 3), 3, none⟩,
      ⟨some 5, (.assign (.tmp 17)), 3, none⟩]))))))
    (.seq (.reg [] [⟨some 36, (.move (.tmp 0)), 23, none⟩,
      ⟨some 37, (.call ⟨(.builtin .len), #[(.tmp 36)], #[23]⟩), 3, none⟩,
      ⟨some 38, (.move (.tmp 1)), 23, none⟩,
      ⟨some 39, (.call ⟨(.builtin .len), #[(.tmp 38)], #[23]⟩), 3, none⟩,
      ⟨some 40, (.binOp .lss 3 (.tmp 37) (.tmp 39) 3), 4, none⟩,
      ⟨some 4, (.assign (.tmp 40)), 4, none⟩])
    .ret)))
theorem C105 {args : List AV} {r : AV} (hn : args.length ≤ 41) (h : vc Tryz.prog T [] A105 (Fin T [(.tmp 4)] r) ⟨envOf 0 args, []⟩) : CallP Tryz.prog 105 args r :=
  callP_of tok mixed Tryz.func105 (by kernel_rfl) (by kernel_rfl) (by kernel_rfl : Tryz.f105.ntmps = 41) (by kernel_rfl : Tryz.f105.body.bind (strip 41 (fun _ => [])) = some A105) hn h
def A96 : ACode :=
  (.seq (.reg [] [⟨some 4, (.assign (.const (.int .i64 0))), 3, none⟩])
    (.seq (.reg [] [⟨some 7, (.move (.tmp 0)), 3, none⟩,
      ⟨some 8, (.call ⟨(.value (.func 141)), #[(.tmp 7)], #[3]⟩), 4, none⟩,
      ⟨some 5, (.assign (.tmp 8)), 4, none⟩])
    (.seq (.reg [] [⟨some 9, (.move (.tmp 1)), 3, none⟩,
      ⟨some 10, (.call ⟨(.value (.func 141)), #[(.tmp 9)], #[3]⟩), 4, none⟩,
      ⟨some 6, (.assign (.tmp 10)), 4, none⟩])
    (.seq (.seq (.reg [] [⟨some 11, (.move (.tmp 5)), 4, none⟩])
    (.cond (.tmp 11)
    (.seq (.seq (.reg [] [⟨some 12, (.move (.tmp 6)), 4, none⟩])
    (.cond (.tmp 12)
    (.seq (.reg [] [⟨some 4, (.assign (.const (.int .i64 0))), 3, none⟩])
    .ret)
    .skip))
    (.seq (.reg [] [⟨some 4, (.assign (.const (.int .i64 (-1)))), 3, none⟩])
    .ret))
    .skip))
    (.seq (.seq (.reg [] [⟨some 13, (.move (.tmp 6)), 4, none⟩])
    (.cond (.tmp 13)
    (.seq (.reg [] [⟨some 4, (.assign (.const (.int .i64 1))), 3, none⟩])
    .ret)
    .skip))
    (.seq (.seq (.reg [] [⟨some 14, (.move (.tmp 0)), 3, none⟩,
      ⟨some 15, (.move (.tmp 1)), 3, none⟩,
      ⟨some 16, (.binOp .lss 3 (.tmp 14) (.tmp 15) 3), 4, none⟩])
    (.cond (.tmp 16)
    (.seq (.reg [] [⟨some 4, (.assign (.const (.int .i64 (-1)))), 3, none⟩])
    .ret)
    .skip))
    (.seq (.seq (.reg [] [⟨some 17, (.move (.tmp 0)), 3, none⟩,
      ⟨some 18, (.move (.tmp 1)), 3, none⟩,
      ⟨some 19, (.binOp .gtr 3 (.tmp 17) (.tmp 18) 3), 4, none⟩])
    (.cond (.tmp 19)
    (.seq (.reg [] [⟨some 4, (.assign (.const (.int .i64 1))), 3, none⟩])
    .ret)
    .skip))
    (.seq (.reg [] [⟨some 4, (.assign (.const (.int .i64 0))), 3, none⟩])
    .ret))))))))
theorem C96 {args : List AV} {r : AV} (hn : args.length ≤ 20) (h : vc Tryz.prog T [] A96 (Fin T [(.tmp 4)] r) ⟨envOf 0 args, []⟩) : CallP Tryz.prog 96 args r :=
  callP_of tok mixed Tryz.func96 (by kernel_rfl) (by kernel_rfl) (by kernel_rfl : Tryz.f96.ntmps = 20) (by kernel_rfl : Tryz.f96.body.bind (strip 20 (fun _ => [])) = some A96) hn h
def A141 : ACode :=
  (.seq (.reg [] [⟨some 2, (.assign (.const (.bool false))), 4, none⟩])
    (.seq (.reg [] [⟨some 3, (.move (.tmp 0)), 3, none⟩,
      ⟨some 4, (.move (.tmp 0)), 3, none⟩,
      ⟨some 5, (.binOp .neq 3 (.tmp 3) (.tmp 4) 3), 4, none⟩,
      ⟨some 2, (.assign (.tmp 5)), 4, none⟩])
    .ret))
theorem C141 {args : List AV} {r : AV} (hn : args.length ≤ 6) (h : vc Tryz.prog T [] A141 (Fin T [(.tmp 2)] r) ⟨envOf 0 args, []⟩) : CallP Tryz.prog 141 args r :=
  callP_of tok mixed Tryz.func141 (by kernel_rfl) (by kernel_rfl) (by kernel_rfl : Tryz.f141.ntmps = 6) (by kernel_rfl : Tryz.f141.body.bind (strip 6 (fun _ => [])) = some A141) hn h

end Go.Proofs.YtkhddecnllcaiaaGreat
end

section
/- Contracts: keys of words. -/
namespace Go.Proofs.YtkhddecnllcaiaaGreat
open Go.Abs Go
set_option maxRecDepth 20000
set_option maxHeartbeats 2000000
attribute [local irreducible] PreK CondK CallK CallG CallX LoopK
attribute [local simp] avsEq avEq akind teq vkind vEq
attribute [simp] T_9 T_12 T_13 T_21 T_114 T_187 T_48 T_57 T_59 T_60 T_52 T_53 T_88 T_89 T_119 T_137 T_145 T_147 T_171 T_175 T_192 T_214

def b8 (x : Int) : AV := .raw (.int .u8 (48 + x))
theorem bytesOf_b8 : ∀ w : List Int, bytesOf (w.map b8) = some (w.map fun x => 48 + x)
  | [] => rfl
  | x :: w => by simp [bytesOf, b8, bytesOf_b8 w]
theorem key_c (w : List Int) (hl : w.length ≤ 1000) (hw : fine w) : CallP Tryz.prog 65 [ints w] (keyV w) := by
  refine C65 (by simp) ?_
  simp [A65]
  refine LoopK.by (ι := Nat × Nat) (fun i => ⟨[(8, iv i.1), (7, iv w.length), (6, ints w), (3, .sl 3 i.2 0 i.1)], [(3, some ⟨1, (w.take i.1).map b8, i.2, false⟩)]⟩) (fun i => w.length - i.1)
    (fun i => i.1 ≤ w.length) (0, 1) (by simp) (by simp) ?_
  intro ⟨i, ver⟩ Q' hi hq he hr
  dsimp only at hi
  try simp 
  refine CondK.intro (fun h1 => ?_) (fun h1 => ?_)
  · simp at h1
    have hx := hw (el w i) (el_mem_of w i h1)
    have hwr : IntKind.u8.wrap (48 + el w i) = 48 + el w i := by
      simp [IntKind.wrap, IntKind.bits, IntKind.signed]
      omega
    have hmin : min i w.length = i := by omega
    try simp [h1, hmin]
    repeat' (first
      | ((with_reducible refine PreK.intro ?_ ?_); (next => (first | omega | (intros; first | omega | (refine ⟨by omega, ?_⟩; repeat (first | assumption | constructor)) | assumption))); intro _; try simp [h1, hmin])
      | fail)
    refine hq (i + 1, ver + 1) _ (by dsimp only; omega) (by dsimp only; omega) ?_
    have e : (w.take (i + 1)).map b8 = (w.take i).map b8 ++ [b8 (el w i)] := by rw [take_succ w i h1, List.map_append]; rfl
    simp [hwr]
    refine .inl ?_
    simp only [← List.map_take, List.take_take, Nat.min_self, e]
    rfl
  · simp at h1
    have hil : i = w.length := by omega
    subst hil
    try simp 
    apply he
    have hb := bytesOf_b8 w
    try simp 
    repeat (refine PreK.intro (by first | omega | (intros; first | omega | (refine ⟨by omega, ?_⟩; simp_all; done) | (simp_all; done) | (simp_all; omega))) fun _ => ?_; (try simp [hb]))
    rfl
end Go.Proofs.YtkhddecnllcaiaaGreat
end

section
/- PURSE -/
/- Contracts: what a word reaches. -/
namespace Go.Proofs.YtkhddecnllcaiaaGreat
open Go.Abs Go
set_option maxRecDepth 20000
set_option maxHeartbeats 8000000
attribute [local irreducible] PreK CondK CallK CallG CallX LoopK
attribute [local simp] avsEq avEq akind teq vkind vEq

theorem CF75 {args : List AV} {r : AV} (hn : args.length ≤ 111) (h : vc Tryz.prog T [] A75 (FinF T [(.tmp 4), (.tmp 5)] r) ⟨envOf 0 args, []⟩) : CallP Tryz.prog 75 args r :=
  callPF_of tok mixed Tryz.func75 (by kernel_rfl) (by kernel_rfl) (by kernel_rfl : Tryz.f75.ntmps = 111) (by kernel_rfl : Tryz.f75.body.bind (strip 111 (fun _ => [])) = some A75) hn h
def graphV (s : List Rule) (g : Gr) : AV := .agg [rulesV s, wordsV g.ws, .map (entsF 0 g.ws), ints g.frm, stepsV g.stp]
def reachV (s : List Rule) : Option Gr → AV
  | none => .tup [.raw (.pointer none), iv 3]
  | some g => .tup [.ipt (graphV s g) 0, iv 0]
def gV (k : Bool) (s : List Rule) (g : Gr) : AV := .agg [rulesV s, .seq 1 (g.ws.map ints) k, .map (entsF 0 g.ws), .seq 1 (g.frm.map iv) k, .seq 2 (g.stp.map stepV) k]
def reachX (s : List Rule) : Option Gr → AV
  | none => .tup [.raw (.pointer none), iv 3]
  | some g => .tup [.ipt (gV (decide (g.ws.length = 1)) s g) 0, iv 0]
def boxT (s : List Rule) (g : Gr) : List (Nat × Option Box) := [(23, some ⟨5, [.agg [rulesV s, .seq 1 (g.ws.map ints) true, .mp 15 1, .seq 1 (g.frm.map iv) true, .seq 2 (g.stp.map stepV) true]], 1, true⟩), (15, some ⟨0, entsF 0 g.ws, 1, false⟩)]
def boxF (s : List Rule) (g : Gr) (v : Nat) : List (Nat × Option Box) := [(23, some ⟨5, [.agg [rulesV s, .sl 87 v 0 g.ws.length, .mp 15 1, .sl 94 v 0 g.frm.length, .sl 102 v 0 g.stp.length]], 1, true⟩), (15, some ⟨0, entsF 0 g.ws, 1, false⟩), (87, some ⟨1, g.ws.map ints, v, false⟩), (94, some ⟨1, g.frm.map iv, v, false⟩), (102, some ⟨2, g.stp.map stepV, v, false⟩)]
attribute [local simp] boxT boxF entsF
theorem reach_x (s : List Rule) (w : List Int) (h : Sys.small s) (hs : sysErr s = 0) (hw : wordErr w = 0) : CallP Tryz.prog 75 [rulesV s, ints w] (reachX s (reachG s w)) := by
  refine CF75 (by simp) ?_
  have hkw := key_c w (by have := (wordErr_zero hw).1; omega) (fine_of hw)
  generalize hR : reachG s w = R
  unfold reachG at hR
  have hok0 := Gr.start hw
  have hk0 : decide ((⟨[w], [-1], [⟨0, 0⟩]⟩ : Gr).ws.length = 1) = true := rfl
  generalize hg0 : (⟨[w], [-1], [⟨0, 0⟩]⟩ : Gr) = g0 at hR hok0 hk0
  simp [A75]
  try simp 
  repeat' (first
    | (refine CallX.pure (hkw) (by simp) (by simp) ?_; try simp )
    | (refine CallK.intro (hkw) (by simp) (by simp) ?_; try simp )
    | (refine CallG.intro (fun _ => hkw) (by simp) (by simp) ?_; try simp )
    | ((with_reducible refine PreK.intro ?_ ?_); (next => (first | omega | (intros; first | omega | (refine ⟨by omega, ?_⟩; repeat (first | assumption | constructor)) | assumption))); intro _; try simp )
    | fail)
  refine PreK.intro (by simp [big]) fun _ => ?_
  try simp 
  try simp 
  repeat' (first
    | ((with_reducible refine PreK.intro ?_ ?_); (next => (first | omega | (intros; first | omega | (refine ⟨by omega, ?_⟩; repeat (first | assumption | constructor)) | assumption))); intro _; try simp )
    | fail)
  refine LoopK.by (ι := Bool × Nat × Nat × Gr) (fun x => match x with
      | (true, i, _, g) => ⟨[(7, iv i), (6, .pt 23 1 0 0), (0, rulesV s)], boxT s g⟩
      | (false, i, v, g) => ⟨[(7, iv i), (6, .pt 23 1 0 0), (0, rulesV s)], boxF s g v⟩)
    (fun x => 400 - x.2.1) (fun x => (decide (x.2.2.2.ws.length = 1) = x.1) ∧ x.2.2.2.ok ∧ x.2.1 ≤ x.2.2.2.ws.length ∧ closeG s (301 - x.2.1) x.2.1 x.2.2.2 = R) (true, 0, 0, g0) ⟨hk0, hok0, by simp, hR⟩ (by subst hg0; simp) ?_
  intro ⟨kd, i, v, g⟩ Q' ⟨hk, hok, hi, hc⟩ hq he hr
  dsimp only at hk hok hi hc
  have hnum := hok.num
  have hfl := hok.frm
  have hsl := hok.stp
  obtain ⟨n, hn⟩ : ∃ n, 301 - i = n + 1 := ⟨300 - i, by omega⟩
  rw [hn, closeG] at hc
  by_cases hi2 : i < g.ws.length
  · rw [if_pos hi2] at hc
    have hui := hok.fine _ (el_mem_of g.ws i hi2)
    have hmc := moves_c s (el g.ws i) h hs hui
    have hmr := fun m hm => @moves_right s (el g.ws i) hs hui m hm
    have hml := movesM_len hs hui
    generalize movesM s (el g.ws i) = ms at hmc hmr hc hml
    generalize hRA : addG i g ms = RA at hc
    cases kd
    · try simp 
      refine CondK.intro (fun h1 => ?_) (fun h1 => ?_)
      · repeat (refine PreK.intro (by first | omega | (intros; first | omega | (refine ⟨by omega, ?_⟩; simp_all; done) | (simp_all; done) | (simp_all; omega))) fun _ => ?_; (try simp [hi2]))
        try simp [hi2]
        repeat' (first
          | (refine CallX.pure (hmc) (by simp) (by simp) ?_; try simp [hi2])
          | (refine CallK.intro (hmc) (by simp) (by simp) ?_; try simp [hi2])
          | (refine CallG.intro (fun _ => hmc) (by simp) (by simp) ?_; try simp [hi2])
          | ((with_reducible refine PreK.intro ?_ ?_); (next => (first | omega | (intros; first | omega | (refine ⟨by omega, ?_⟩; repeat (first | assumption | constructor)) | assumption))); intro _; try simp [hi2])
          | fail)
        refine LoopK.by (ι := Nat × Nat × Gr) (fun x => ⟨[(43, iv x.1), (42, iv ms.length), (41, movesV ms), (7, iv i), (6, .pt 23 1 0 0), (0, rulesV s)], boxF s x.2.2 x.2.1⟩)
          (fun x => ms.length - x.1) (fun x => (decide (x.2.2.ws.length = 1) = false) ∧ x.2.2.ok ∧ i + 1 ≤ x.2.2.ws.length ∧ addG i x.2.2 (ms.drop x.1) = RA) (0, v, g) ⟨hk, hok, hi2, hRA⟩ (by simp) ?_
        intro ⟨j, v', g'⟩ Q'' ⟨hk', hok', hi', ha⟩ hq' he' hr'
        dsimp only at hk' hok' hi' ha
        try simp 
        refine CondK.intro (fun h2 => ?_) (fun h2 => ?_)
        · simp at h2
          have hmw := hmr (el ms j) (el_mem_of ms j h2)
          rw [drop_cons ms j h2, addG] at ha
          have hkc := key_c (el ms j).word (by have := (wordErr_zero hmw).1; omega) (fine_of hmw)
          repeat (refine PreK.intro (by first | omega | (intros; first | omega | (refine ⟨by omega, ?_⟩; simp_all; done) | (simp_all; done) | (simp_all; omega))) fun _ => ?_; (try simp [h2]))
          by_cases hmem : (el ms j).word ∈ g'.ws
          · obtain ⟨q, q1, q2, q3⟩ := mfind_some (k := 0) (j := 0) (fun x hx => fine_of (hok'.fine x hx)) hmem
            rw [if_pos hmem] at ha
            refine CallK.intro (by simpa using hkc) (by simp) (by simp) ?_
            try simp [q3, keysOK_ents]
            repeat (refine PreK.intro (by first | omega | (intros; first | omega | (refine ⟨by omega, ?_⟩; simp_all; done) | (simp_all; done) | (simp_all; omega))) fun _ => ?_; (try simp [q3, keysOK_ents]))
            refine CondK.intro (fun h3 => ?_) (fun h3 => ?_)
            · repeat (refine PreK.intro (by first | omega | (intros; first | omega | (refine ⟨by omega, ?_⟩; simp_all; done) | (simp_all; done) | (simp_all; omega))) fun _ => ?_; (try simp ))
              exact hq' (j + 1, v', g') _ ⟨hk', hok', hi', ha⟩ (by dsimp only; omega) (by simp)
            · simp at h3
          · have q3 := mfind_none (k := 0) (j := 0) (fun x hx => fine_of (hok'.fine x hx)) (fine_of hmw) hmem
            rw [if_neg hmem] at ha
            refine CallK.intro (by simpa using hkc) (by simp) (by simp) ?_
            try simp [q3, keysOK_ents]
            repeat (refine PreK.intro (by first | omega | (intros; first | omega | (refine ⟨by omega, ?_⟩; simp_all; done) | (simp_all; done) | (simp_all; omega))) fun _ => ?_; (try simp [q3, keysOK_ents]))
            refine CondK.intro (fun h3 => ?_) (fun h3 => ?_)
            · simp at h3
            · repeat (refine PreK.intro (by first | omega | (intros; first | omega | (refine ⟨by omega, ?_⟩; simp_all; done) | (simp_all; done) | (simp_all; omega))) fun _ => ?_; (try simp ))
              by_cases h300 : g'.ws.length = 300
              · rw [if_pos h300] at ha
                subst ha
                refine CondK.intro (fun h4 => ?_) (fun h4 => ?_)
                · try simp 
                  apply hr'
                  apply hr
                  refine ⟨[], ?_⟩
                  simp [reachX, ← hc]
                · simp at h4; omega
              · rw [if_neg h300] at ha
                have hlen1 := hok'.num
                have hlen2 := hok'.frm
                have hlen3 := hok'.stp
                refine CondK.intro (fun h4 => ?_) (fun h4 => ?_)
                · simp at h4; omega
                · repeat (refine PreK.intro (by first | omega | (intros; first | omega | (refine ⟨by omega, ?_⟩; simp_all; done) | (simp_all; done) | (simp_all; omega))) fun _ => ?_; (try simp ))
                  refine CallK.intro (by simpa using hkc) (by simp) (by simp) ?_
                  try simp [q3, keysOK_ents, entsF_len]
                  refine PreK.intro (by simp only [big]; omega) fun _ => ?_
                  try simp 
                  repeat (refine PreK.intro (by first | omega | (intros; first | omega | (refine ⟨by omega, ?_⟩; simp_all; done) | (simp_all; done) | (simp_all; omega))) fun _ => ?_; (try simp [q3, keysOK_ents, entsF_len]))
                  refine hq' (j + 1, v' + 1, ⟨g'.ws ++ [(el ms j).word], g'.frm ++ [(i : Int)], g'.stp ++ [(el ms j).step]⟩) _ ⟨by have := hok'.some; simp only [decide_eq_false_iff_not, List.length_append, List.length_cons, List.length_nil]; omega, hok'.push hmw h300, by simp; omega, ha⟩ (by dsimp only; omega) (by simp [q3, entsF_push])
        · simp at h2
          rw [List.drop_eq_nil_of_le (by omega), addG] at ha
          subst ha
          try simp 
          apply he'
          try simp 
          repeat' (first
            | ((with_reducible refine PreK.intro ?_ ?_); (next => (first | omega | (intros; first | omega | (refine ⟨by omega, ?_⟩; repeat (first | assumption | constructor)) | assumption))); intro _; try simp )
            | fail)
          exact hq (false, i + 1, v', g') _ ⟨hk', hok', hi', by dsimp only; rw [show 301 - (i + 1) = n by omega]; exact hc⟩ (by dsimp only; omega) (by simp)
      · simp at h1
        omega
    · try simp 
      refine CondK.intro (fun h1 => ?_) (fun h1 => ?_)
      · repeat (refine PreK.intro (by first | omega | (intros; first | omega | (refine ⟨by omega, ?_⟩; simp_all; done) | (simp_all; done) | (simp_all; omega))) fun _ => ?_; (try simp [hi2]))
        try simp [hi2]
        repeat' (first
          | (refine CallX.pure (hmc) (by simp) (by simp) ?_; try simp [hi2])
          | (refine CallK.intro (hmc) (by simp) (by simp) ?_; try simp [hi2])
          | (refine CallG.intro (fun _ => hmc) (by simp) (by simp) ?_; try simp [hi2])
          | ((with_reducible refine PreK.intro ?_ ?_); (next => (first | omega | (intros; first | omega | (refine ⟨by omega, ?_⟩; repeat (first | assumption | constructor)) | assumption))); intro _; try simp [hi2])
          | fail)
        refine LoopK.by (ι := Bool × Nat × Nat × Gr) (fun x => match x with
            | (true, j, _, g') => ⟨[(43, iv j), (42, iv ms.length), (41, movesV ms), (7, iv i), (6, .pt 23 1 0 0), (0, rulesV s)], boxT s g'⟩
            | (false, j, v', g') => ⟨[(43, iv j), (42, iv ms.length), (41, movesV ms), (7, iv i), (6, .pt 23 1 0 0), (0, rulesV s)], boxF s g' v'⟩)
          (fun x => ms.length - x.2.1) (fun x => (decide (x.2.2.2.ws.length = 1) = x.1) ∧ x.2.2.2.ok ∧ i + 1 ≤ x.2.2.2.ws.length ∧ addG i x.2.2.2 (ms.drop x.2.1) = RA) (true, 0, v, g) ⟨hk, hok, hi2, hRA⟩ (by simp) ?_
        intro ⟨kd', j, v', g'⟩ Q'' ⟨hk', hok', hi', ha⟩ hq' he' hr'
        dsimp only at hk' hok' hi' ha
        cases kd'
        · try simp 
          refine CondK.intro (fun h2 => ?_) (fun h2 => ?_)
          · simp at h2
            have hmw := hmr (el ms j) (el_mem_of ms j h2)
            rw [drop_cons ms j h2, addG] at ha
            have hkc := key_c (el ms j).word (by have := (wordErr_zero hmw).1; omega) (fine_of hmw)
            repeat (refine PreK.intro (by first | omega | (intros; first | omega | (refine ⟨by omega, ?_⟩; simp_all; done) | (simp_all; done) | (simp_all; omega))) fun _ => ?_; (try simp [h2]))
            by_cases hmem : (el ms j).word ∈ g'.ws
            · obtain ⟨q, q1, q2, q3⟩ := mfind_some (k := 0) (j := 0) (fun x hx => fine_of (hok'.fine x hx)) hmem
              rw [if_pos hmem] at ha
              refine CallK.intro (by simpa using hkc) (by simp) (by simp) ?_
              try simp [q3, keysOK_ents]
              repeat (refine PreK.intro (by first | omega | (intros; first | omega | (refine ⟨by omega, ?_⟩; simp_all; done) | (simp_all; done) | (simp_all; omega))) fun _ => ?_; (try simp [q3, keysOK_ents]))
              refine CondK.intro (fun h3 => ?_) (fun h3 => ?_)
              · repeat (refine PreK.intro (by first | omega | (intros; first | omega | (refine ⟨by omega, ?_⟩; simp_all; done) | (simp_all; done) | (simp_all; omega))) fun _ => ?_; (try simp ))
                exact hq' (false, j + 1, v', g') _ ⟨hk', hok', hi', ha⟩ (by dsimp only; omega) (by simp)
              · simp at h3
            · have q3 := mfind_none (k := 0) (j := 0) (fun x hx => fine_of (hok'.fine x hx)) (fine_of hmw) hmem
              rw [if_neg hmem] at ha
              refine CallK.intro (by simpa using hkc) (by simp) (by simp) ?_
              try simp [q3, keysOK_ents]
              repeat (refine PreK.intro (by first | omega | (intros; first | omega | (refine ⟨by omega, ?_⟩; simp_all; done) | (simp_all; done) | (simp_all; omega))) fun _ => ?_; (try simp [q3, keysOK_ents]))
              refine CondK.intro (fun h3 => ?_) (fun h3 => ?_)
              · simp at h3
              · repeat (refine PreK.intro (by first | omega | (intros; first | omega | (refine ⟨by omega, ?_⟩; simp_all; done) | (simp_all; done) | (simp_all; omega))) fun _ => ?_; (try simp ))
                by_cases h300 : g'.ws.length = 300
                · rw [if_pos h300] at ha
                  subst ha
                  refine CondK.intro (fun h4 => ?_) (fun h4 => ?_)
                  · try simp 
                    apply hr'
                    apply hr
                    refine ⟨[], ?_⟩
                    simp [reachX, ← hc]
                  · simp at h4; omega
                · rw [if_neg h300] at ha
                  have hlen1 := hok'.num
                  have hlen2 := hok'.frm
                  have hlen3 := hok'.stp
                  refine CondK.intro (fun h4 => ?_) (fun h4 => ?_)
                  · simp at h4; omega
                  · repeat (refine PreK.intro (by first | omega | (intros; first | omega | (refine ⟨by omega, ?_⟩; simp_all; done) | (simp_all; done) | (simp_all; omega))) fun _ => ?_; (try simp ))
                    refine CallK.intro (by simpa using hkc) (by simp) (by simp) ?_
                    try simp [q3, keysOK_ents, entsF_len]
                    refine PreK.intro (by simp only [big]; omega) fun _ => ?_
                    try simp 
                    repeat (refine PreK.intro (by first | omega | (intros; first | omega | (refine ⟨by omega, ?_⟩; simp_all; done) | (simp_all; done) | (simp_all; omega))) fun _ => ?_; (try simp [q3, keysOK_ents, entsF_len]))
                    refine hq' (false, j + 1, v' + 1, ⟨g'.ws ++ [(el ms j).word], g'.frm ++ [(i : Int)], g'.stp ++ [(el ms j).step]⟩) _ ⟨by have := hok'.some; simp only [decide_eq_false_iff_not, List.length_append, List.length_cons, List.length_nil]; omega, hok'.push hmw h300, by simp; omega, ha⟩ (by dsimp only; omega) (by simp [q3, entsF_push])
          · simp at h2
            rw [List.drop_eq_nil_of_le (by omega), addG] at ha
            subst ha
            try simp 
            apply he'
            try simp 
            repeat' (first
              | ((with_reducible refine PreK.intro ?_ ?_); (next => (first | omega | (intros; first | omega | (refine ⟨by omega, ?_⟩; repeat (first | assumption | constructor)) | assumption))); intro _; try simp )
              | fail)
            exact hq (false, i + 1, v', g') _ ⟨hk', hok', hi', by dsimp only; rw [show 301 - (i + 1) = n by omega]; exact hc⟩ (by dsimp only; omega) (by simp)
        · try simp 
          refine CondK.intro (fun h2 => ?_) (fun h2 => ?_)
          · simp at h2
            have hmw := hmr (el ms j) (el_mem_of ms j h2)
            rw [drop_cons ms j h2, addG] at ha
            have hkc := key_c (el ms j).word (by have := (wordErr_zero hmw).1; omega) (fine_of hmw)
            repeat (refine PreK.intro (by first | omega | (intros; first | omega | (refine ⟨by omega, ?_⟩; simp_all; done) | (simp_all; done) | (simp_all; omega))) fun _ => ?_; (try simp [h2]))
            by_cases hmem : (el ms j).word ∈ g'.ws
            · obtain ⟨q, q1, q2, q3⟩ := mfind_some (k := 0) (j := 0) (fun x hx => fine_of (hok'.fine x hx)) hmem
              rw [if_pos hmem] at ha
              refine CallK.intro (by simpa using hkc) (by simp) (by simp) ?_
              try simp [q3, keysOK_ents]
              repeat (refine PreK.intro (by first | omega | (intros; first | omega | (refine ⟨by omega, ?_⟩; simp_all; done) | (simp_all; done) | (simp_all; omega))) fun _ => ?_; (try simp [q3, keysOK_ents]))
              refine CondK.intro (fun h3 => ?_) (fun h3 => ?_)
              · repeat (refine PreK.intro (by first | omega | (intros; first | omega | (refine ⟨by omega, ?_⟩; simp_all; done) | (simp_all; done) | (simp_all; omega))) fun _ => ?_; (try simp ))
                exact hq' (true, j + 1, v', g') _ ⟨hk', hok', hi', ha⟩ (by dsimp only; omega) (by simp)
              · simp at h3
            · have q3 := mfind_none (k := 0) (j := 0) (fun x hx => fine_of (hok'.fine x hx)) (fine_of hmw) hmem
              rw [if_neg hmem] at ha
              refine CallK.intro (by simpa using hkc) (by simp) (by simp) ?_
              try simp [q3, keysOK_ents]
              repeat (refine PreK.intro (by first | omega | (intros; first | omega | (refine ⟨by omega, ?_⟩; simp_all; done) | (simp_all; done) | (simp_all; omega))) fun _ => ?_; (try simp [q3, keysOK_ents]))
              refine CondK.intro (fun h3 => ?_) (fun h3 => ?_)
              · simp at h3
              · repeat (refine PreK.intro (by first | omega | (intros; first | omega | (refine ⟨by omega, ?_⟩; simp_all; done) | (simp_all; done) | (simp_all; omega))) fun _ => ?_; (try simp ))
                by_cases h300 : g'.ws.length = 300
                · rw [if_pos h300] at ha
                  subst ha
                  refine CondK.intro (fun h4 => ?_) (fun h4 => ?_)
                  · try simp 
                    apply hr'
                    apply hr
                    refine ⟨[], ?_⟩
                    simp [reachX, ← hc]
                  · simp at h4; omega
                · rw [if_neg h300] at ha
                  have hlen1 := hok'.num
                  have hlen2 := hok'.frm
                  have hlen3 := hok'.stp
                  refine CondK.intro (fun h4 => ?_) (fun h4 => ?_)
                  · simp at h4; omega
                  · repeat (refine PreK.intro (by first | omega | (intros; first | omega | (refine ⟨by omega, ?_⟩; simp_all; done) | (simp_all; done) | (simp_all; omega))) fun _ => ?_; (try simp ))
                    refine CallK.intro (by simpa using hkc) (by simp) (by simp) ?_
                    try simp [q3, keysOK_ents, entsF_len]
                    refine PreK.intro (by simp only [big]; omega) fun _ => ?_
                    try simp 
                    repeat (refine PreK.intro (by first | omega | (intros; first | omega | (refine ⟨by omega, ?_⟩; simp_all; done) | (simp_all; done) | (simp_all; omega))) fun _ => ?_; (try simp [q3, keysOK_ents, entsF_len]))
                    refine hq' (false, j + 1, 1, ⟨g'.ws ++ [(el ms j).word], g'.frm ++ [(i : Int)], g'.stp ++ [(el ms j).step]⟩) _ ⟨by have := hok'.some; simp only [decide_eq_false_iff_not, List.length_append, List.length_cons, List.length_nil]; omega, hok'.push hmw h300, by simp; omega, ha⟩ (by dsimp only; omega) (by simp [q3, entsF_push])
          · simp at h2
            rw [List.drop_eq_nil_of_le (by omega), addG] at ha
            subst ha
            try simp 
            apply he'
            try simp 
            repeat' (first
              | ((with_reducible refine PreK.intro ?_ ?_); (next => (first | omega | (intros; first | omega | (refine ⟨by omega, ?_⟩; repeat (first | assumption | constructor)) | assumption))); intro _; try simp )
              | fail)
            exact hq (true, i + 1, v', g') _ ⟨hk', hok', hi', by dsimp only; rw [show 301 - (i + 1) = n by omega]; exact hc⟩ (by dsimp only; omega) (by simp)
      · simp at h1
        omega
  · rw [if_neg hi2] at hc
    cases kd
    · try simp 
      refine CondK.intro (fun h1 => ?_) (fun h1 => ?_)
      · simp at h1
        omega
      · try simp 
        apply he
        try simp 
        refine ⟨[87, 94, 102, 15, 23], ?_⟩
        simp [reachX, gV, ← hc, hk]
    · try simp 
      refine CondK.intro (fun h1 => ?_) (fun h1 => ?_)
      · simp at h1
        omega
      · try simp 
        apply he
        try simp 
        refine ⟨[15, 23], ?_⟩
        simp [reachX, gV, ← hc, hk]
end Go.Proofs.YtkhddecnllcaiaaGreat
end

section
/- The library's sort of words, over a lent box. -/
namespace Go.Proofs.YtkhddecnllcaiaaGreat
open Go.Abs Go

/-! ### lists of words in order -/
/-- No later one comes before an earlier one. -/
def inOrder (l : List (List Int)) : Prop := l.Pairwise fun a b => bef b a = false
theorem order_same : ∀ {l m : List (List Int)}, l.Perm m → inOrder l → inOrder m → l = m
  | [], m, h, _, _ => by simpa using h.symm
  | x :: l, [], h, _, _ => by simp at h
  | x :: l, y :: m, h, hl, hm => by
    unfold inOrder at hl hm
    rw [List.pairwise_cons] at hl hm
    have hxy : x = y := by
      apply Classical.byContradiction
      intro hne
      have hx : x ∈ m := by
        rcases List.mem_cons.1 (h.mem_iff.1 (List.mem_cons_self)) with e | e
        · exact absurd e hne
        · exact e
      have hy : y ∈ l := by
        rcases List.mem_cons.1 (h.mem_iff.2 (List.mem_cons_self)) with e | e
        · exact absurd e.symm hne
        · exact e
      have h1 := hl.1 y hy
      have h2 := hm.1 x hx
      rcases bef_total hne with e | e
      · rw [e] at h2; cases h2
      · rw [e] at h1; cases h1
    subst hxy
    rw [order_same (List.Perm.cons_inv h) hl.2 hm.2]
def insO (w : List Int) : List (List Int) → List (List Int)
  | [] => [w]
  | x :: l => if bef x w then x :: insO w l else w :: x :: l
/-- The words in ascending order. -/
def sortW : List (List Int) → List (List Int)
  | [] => []
  | x :: l => insO x (sortW l)
theorem insO_perm (w : List Int) : ∀ l : List (List Int), (insO w l).Perm (w :: l)
  | [] => List.Perm.refl _
  | x :: l => by
    rw [insO]
    split
    · exact ((insO_perm w l).cons x).trans (List.Perm.swap w x l)
    · exact List.Perm.refl _
theorem sortW_perm : ∀ l : List (List Int), (sortW l).Perm l
  | [] => List.Perm.refl _
  | x :: l => (insO_perm x (sortW l)).trans ((sortW_perm l).cons x)
theorem bef_flip {a b : List Int} (h : bef a b = true) : bef b a = false := bef_asymm h
theorem bef_no_trans {a b c : List Int} (h : bef b a = false) (k : bef c b = false) : bef c a = false := by
  cases hc : bef c a with
  | false => rfl
  | true =>
    by_cases e1 : a = b
    · subst e1; rw [k] at hc; cases hc
    · by_cases e2 : b = c
      · subst e2; rw [h] at hc; cases hc
      · rcases bef_total e1 with e | e
        · have := bef_trans hc e
          rw [this] at k; cases k
        · rw [e] at h; cases h
theorem insO_order {w : List Int} : ∀ {l : List (List Int)}, inOrder l → inOrder (insO w l)
  | [], _ => by simp [insO, inOrder]
  | x :: l, h => by
    unfold inOrder at h
    rw [List.pairwise_cons] at h
    rw [insO]
    split
    · rename_i hb
      unfold inOrder
      rw [List.pairwise_cons]
      refine ⟨fun y hy => ?_, insO_order h.2⟩
      rcases List.mem_cons.1 ((insO_perm w l).mem_iff.1 hy) with rfl | hy
      · exact bef_flip hb
      · exact h.1 y hy
    · rename_i hb
      have hb' : bef x w = false := by simpa using hb
      unfold inOrder
      rw [List.pairwise_cons]
      refine ⟨fun y hy => ?_, by rw [List.pairwise_cons]; exact h⟩
      rcases List.mem_cons.1 hy with rfl | hy
      · exact hb'
      · exact bef_no_trans hb' (h.1 y hy)
theorem sortW_order : ∀ l : List (List Int), inOrder (sortW l)
  | [] => by simp [sortW, inOrder]
  | x :: l => insO_order (sortW_order l)

/-- How two words compare. -/
def cmpW (a b : List Int) : Int := if a = b then 0 else if bef a b then -1 else 1

/-! ### the library's sort -/
section
open Go.Sort Go.Shelf
variable {P : Program} {ρ : Ren}

/-- A word and the value that reads so. -/
abbrev Cell (w : World) (Y : Nat → Prop) := { p : List Int × Value // Rep w Y Mu.none (ints p.1) p.2 }
instance {w : World} {Y : Nat → Prop} : Inhabited (Cell w Y) := ⟨⟨([], .slice none 0 0), .nil⟩⟩
def cellV {w : World} {Y : Nat → Prop} (x : Cell w Y) : Value := x.1.2
def cellC {w : World} {Y : Nat → Prop} (x y : Cell w Y) : Int := cmpW x.1.1 y.1.1
theorem cellV_one {w : World} {Y : Nat → Prop} : OneCell (cellV (w := w) (Y := Y)) := by
  intro ⟨⟨l, v⟩, h⟩
  unfold cellV
  simp only [ints] at h ⊢
  generalize l.map iv = m at h
  cases h <;> rfl
theorem cell_big {w : World} {Y : Nat → Prop} {l : List Int} {v : Value} (h : Rep w Y Mu.none (ints l) v) : l.length ≤ big := by
  simp only [ints] at h
  have e : l.length = (l.map iv).length := by simp
  rw [e]
  generalize l.map iv = m at h
  cases h with
  | nil => simp
  | seq hY hb hc hf hbig hfit hw h1 h => exact hbig
theorem cellC_lt {w : World} {Y : Nat → Prop} (x y : Cell w Y) : ltOf cellC x y = bef x.1.1 y.1.1 := by
  unfold ltOf cellC cmpW
  by_cases h : x.1.1 = y.1.1
  · rw [if_pos h, h, bef_irr]; simp
  · rw [if_neg h]
    cases bef x.1.1 y.1.1 <;> simp
theorem cell_swo {w : World} {Y : Nat → Prop} : SWO (ltOf (cellC (w := w) (Y := Y))) := by
  refine ⟨fun x => ?_, fun x y z h1 h2 => ?_, fun x y z h1 h2 => ?_⟩
  · rw [cellC_lt, bef_irr]
  · rw [cellC_lt] at h1 h2 ⊢
    exact bef_trans h1 h2
  · rw [cellC_lt] at h1 h2 ⊢
    exact bef_no_trans h2 h1
theorem grows_eq {w w' : World} (h : Grows w w') : w' = Go.Sort.grow (w.drewN (w'.drawn - w.drawn)) (w'.heap.extract w.heap.size w'.heap.size) := by
  obtain ⟨⟨h1, h2⟩, h3, h4, h5, h6⟩ := h
  cases w
  cases w'
  unfold Go.Sort.grow World.drewN
  simp only at h1 h2 h3 h4 h5 h6 ⊢
  simp only [World.mk.injEq]
  refine ⟨?_, h3, by omega, h1, h4⟩
  apply Array.ext_getElem?
  intro k
  rw [Array.getElem?_append]
  split
  · rename_i hk; exact h6 k hk
  · rename_i hk
    rw [Array.getElem?_extract]
    split
    · congr 1; omega
    · rename_i h7
      rw [Array.getElem?_eq_none (by omega)]
theorem sortWorld_other {α : Type} [Inhabited α] {enc : α → Value} {w : World} {blk off m : Nat} {dk : Array α} {os : Array Obj} {b : Nat} (hb : b < w.heap.size) (hne : b ≠ blk) : (Go.Proofs.sortWorld enc w blk off m dk os).heap[b]? = w.heap[b]? := by
  unfold Go.Proofs.sortWorld Go.Sort.grow Go.Sort.putRow Go.Sort.mapBlock Go.Sort.ahead
  simp only
  rw [Array.getElem?_append_left (by simpa using hb), Array.getElem?_modify, if_neg (Ne.symm hne)]
theorem sortWorld_at {α : Type} [Inhabited α] {enc : α → Value} {w : World} {blk off m : Nat} {dk : Array α} {os : Array Obj} {c : Array Value} {e : TypeId} {fr : Nat × Nat} (hb : w.heap[blk]? = some (.cells c e fr)) : (Go.Proofs.sortWorld enc w blk off m dk os).heap[blk]? = some (.cells (Go.Sort.putCells enc off dk c) e fr) := by
  have hlt := lt_of_heap hb
  unfold Go.Proofs.sortWorld Go.Sort.grow Go.Sort.putRow Go.Sort.mapBlock Go.Sort.ahead
  simp only
  rw [Array.getElem?_append_left (by simpa using hlt), Array.getElem?_modify, if_pos rfl, hb]
  rfl
theorem sortWorld_size {α : Type} [Inhabited α] {enc : α → Value} {w : World} {blk off m : Nat} {dk : Array α} {os : Array Obj} : w.heap.size ≤ (Go.Proofs.sortWorld enc w blk off m dk os).heap.size := by
  unfold Go.Proofs.sortWorld Go.Sort.grow Go.Sort.putRow Go.Sort.mapBlock Go.Sort.ahead
  simp
theorem putCells_getD {α : Type} [Inhabited α] {enc : α → Value} {off : Nat} {d : Array α} {c : Array Value} {k : Nat} (hk : k < c.size) : (Go.Sort.putCells enc off d c).getD k undef = if off ≤ k ∧ k < off + d.size then enc d[k - off]! else c.getD k undef := by
  unfold Go.Sort.putCells
  simp [Array.getD, hk]
/-- The library's sort of words, over a lent row. -/
theorem callL_sort (L : SlLaysF.n6 P ρ) {g : FuncId} (hg : ∀ a b : List Int, a.length ≤ big → b.length ≤ big → CallP P g [ints a, ints b] (iv (cmpW a b))) (d : List (List Int)) :
    CallL P (ρ.f 6) [] 1 (d.map ints) [.fn g [] []] (.val (.tup [])) ((sortW d).map ints) := by
  have hsl : (sortW d).length = d.length := (sortW_perm d).length_eq
  refine ⟨?_, fun w X l vs hv hsz hX hXl hh hlen hargs => ?_⟩
  · obtain ⟨nm, hn, hf⟩ := L.f6
    exact ⟨_, hf, by simpa using hn, by simp [SlBodyF.n6]⟩
  obtain ⟨v0, v1, rfl⟩ : ∃ v0 v1, vs = #[v0, v1] := by
    cases vs with
    | mk l =>
      match l, hlen with
      | [a, b], _ => exact ⟨a, b, rfl⟩
  have h0 : Rep w (Yof X (mu1 l)) (mu1 l) (.sl lid 0 0 (d.map ints).length) v0 := hargs 0 (by simp)
  have h1 : Rep w (Yof X (mu1 l)) (mu1 l) (.fn g [] []) v1 := hargs 1 (by simp)
  generalize hn : (d.map ints).length = n at h0
  simp only [List.length_map] at hn
  cases h1 with
  | @fn _ _ _ _ fs cs hs ht _ _ =>
  obtain rfl : fs = #[] := Array.eq_empty_of_size_eq_zero hs
  obtain rfl : cs = #[] := Array.eq_empty_of_size_eq_zero ht
  cases h0 with
  | slOld hm hv' =>
    simp only [mu1, if_true, Option.some.injEq] at hm
    subst hm
    omega
  | slNil hm hv' =>
    obtain rfl : d = [] := List.eq_nil_of_length_eq_zero hn
    refine (AnyF.slices_SortFunc_none (P := P) (ρ := ρ) { L with } _ 0 _ w).mono fun e w' ⟨he, hw⟩ => ?_
    subst hw
    exact ⟨_, he, Ext.refl _ _, hh, .tup rfl fun i hi => absurd hi (by simp)⟩
  | @sl _ _ _ _ _ cap loc g0 n0 hm hv' hb hc hfit hz =>
    simp only [mu1, if_true, Option.some.injEq] at hm
    subst hm
    subst hn
    obtain ⟨hbig, hh⟩ := hh
    rw [hb] at hh
    obtain ⟨c, el, hheap, hcs, hlen', hone, hrep⟩ := hh.1 (by simp)
    rw [hsz] at hfit
    simp only [Nat.zero_mul, Nat.add_zero, Nat.zero_add, Nat.mul_one, List.length_map, hsz] at hfit hlen' ⊢
    let Y : Nat → Prop := Yof X (mu1 l)
    have hY0 : Y g0 := .inr (blks_mu1.2 ⟨n0, hb⟩)
    have hYlt : ∀ b, Y b → b < w.heap.size := by
      rintro b (hx | hx)
      · exact hX b hx
      · obtain ⟨n, hn⟩ := blks_mu1.1 hx
        rw [hb] at hn
        simp only [Option.some.injEq, Prod.mk.injEq] at hn
        rw [← hn.1]
        exact lt_of_heap hheap
    have hcell : ∀ i : Fin d.length, Rep w Y Mu.none (ints d[i]) (c.getD (l.base + i) undef) := by
      intro i
      have := (hrep i (by simp)).2
      simp only [List.getD_eq_getElem?_getD, List.getElem?_map, List.getElem?_eq_getElem i.2, Option.map_some, Option.getD_some, Nat.mul_one, if_false, Bool.false_eq_true] at this
      exact this
    let arr : Array (Cell w Y) := Array.ofFn (n := d.length) fun i => ⟨(d[i], c.getD (l.base + i) undef), hcell i⟩
    have harr : arr.size = d.length := Array.size_ofFn
    have hget : ∀ i (hi : i < d.length), arr[i]! = ⟨(d[i], c.getD (l.base + i) undef), hcell ⟨i, hi⟩⟩ := by
      intro i hi
      rw [getElem!_pos arr i (by rw [harr]; exact hi)]
      exact Array.getElem_ofFn ..
    have hwords : arr.toList.map (fun x => x.1.1) = d := by
      apply List.ext_getElem
      · rw [List.length_map, Array.length_toList, harr]
      · intro i h1 h2
        rw [List.getElem_map, Array.getElem_toList, ← getElem!_pos arr i (by rw [harr]; exact h2), hget i h2]
    have hmono : ∀ {m : Nat} {dk : Array (Cell w Y)} {os : Array Obj} {a : AV} {v : Value}, Rep w Y Mu.none a v → Rep (Go.Proofs.sortWorld cellV w g0 l.base m dk os) Y Mu.none a v := by
      intro m dk os a v h
      refine h.mono (fun b hb' hlt => ⟨hb', sortWorld_other hlt ?_⟩) (Mu.later.refl _)
      rintro rfl
      exact hb' hY0
    have hkey := Any.slices_SortFunc L (cellV (w := w) (Y := Y)) cellV_one cellC cell_swo g #[] g0 l.base cap arr w ?_ ?_ ?_ (lt_of_heap hheap) ?_
    · rw [harr] at hkey
      refine hkey.mono fun e w' ⟨he, d', n, os, hp, hs, hw⟩ => ?_
      obtain ⟨hp1, _, hp2⟩ := hp
      rw [harr] at hp1
      have hd' : d'.toList.map (fun x => x.1.1) = sortW d := by
        refine order_same ?_ ?_ (sortW_order d)
        · have e1 : d'.extract 0 d.length = d' := by rw [← hp1]; exact Array.extract_size
          have e2 : arr.extract 0 d.length = arr := by rw [← harr]; exact Array.extract_size
          rw [e1, e2] at hp2
          exact ((hp2.map (fun x => x.1.1)).trans (by rw [hwords])).trans (sortW_perm d).symm
        · unfold inOrder
          rw [List.pairwise_map, List.pairwise_iff_getElem]
          intro i j hi hj hij
          have := hs i j (Nat.zero_le _) hij (by simpa [hp1] using hj)
          rw [cellC_lt, getElem!_pos d' j (by simpa using hj), getElem!_pos d' i (by simpa using hi)] at this
          simpa using this
      subst hw
      refine ⟨_, he, ⟨⟨rfl, ?_⟩, rfl, rfl, sortWorld_size, fun b hlt hno => sortWorld_other hlt ?_⟩, ⟨by simpa [hsl] using hbig, ?_⟩, .tup rfl fun i hi => absurd hi (by simp)⟩
      · exact Nat.le_add_right _ _
      · rintro rfl
        exact hno (blks_mu1.2 ⟨n0, hb⟩)
      · rw [hb]
        refine ⟨fun _ => ⟨_, el, sortWorld_at hheap, by simpa [Go.Sort.putCells] using hcs, by simpa [hsl] using hlen', fun j hj => ?_, fun i hi => ?_⟩, fun h => by cases h⟩
        · rw [putCells_getD (by omega)]
          split
          · exact cellV_one _
          · exact hone j hj
        · have hi' : i < d.length := by simpa [hsl] using hi
          have hi2 : i < d'.toList.length := by simpa [hp1] using hi'
          have e3 : (List.map ints (sortW d)).getD i .junk = ints (d'[i]!).1.1 := by
            rw [← hd', List.map_map, List.getD_eq_getElem?_getD, List.getElem?_map, List.getElem?_eq_getElem hi2, getElem!_pos d' i (by simpa using hi2)]
            simp
          rw [e3]
          have hi3 : i < d'.size := by rw [hp1]; exact hi'
          have hlt : l.base + i * 1 < c.size := by rw [hcs]; omega
          refine ⟨rfl, ?_⟩
          show Rep _ _ Mu.none _ ((Go.Sort.putCells cellV l.base d' c).getD (l.base + i * 1) undef)
          rw [putCells_getD hlt, if_pos (by omega), show l.base + i * 1 - l.base = i by omega]
          exact hmono (d'[i]!).2
    · intro args w1
      obtain ⟨fn, hf, hname, hbody⟩ := (hg [] [] (by simp) (by simp)).1
      cases hb2 : fn.body with
      | none => exact absurd hb2 hbody
      | some code => exact enters_of hf (by simpa using hname) hb2 args w1
    · intro m os dk hdk x y
      refine ((hg x.1.1 y.1.1 (cell_big x.2) (cell_big y.2)).2 _ Y _ (fun b hb' => Nat.lt_of_lt_of_le (hYlt b hb') sortWorld_size) rfl fun i hi => ?_).mono ?_
      · match i, hi with
        | 0, _ => exact hmono x.2
        | 1, _ => exact hmono y.2
      · rintro e w' ⟨v, he, hgw, hr⟩
        obtain ⟨rfl, _⟩ := hr.one
        exact ⟨he, _, _, grows_eq hgw⟩
    · intro j hj
      rw [harr] at hj
      rw [hget j hj]
      have hlt : l.base + j < c.size := by omega
      refine ⟨?_, ?_⟩
      · unfold World.cell?
        simp only [hheap]
        simp [cellV, Array.getD, hlt]
      · unfold World.frozen?
        simp [hheap]
    · rw [harr]
      simp only [List.length_map, big] at hbig
      omega
end
end Go.Proofs.YtkhddecnllcaiaaGreat
end

section
/- The library's sort of words at this program: where its functions and types stand (written by the kit's tool lay-plain), and its contract. -/
namespace Go.Proofs.YtkhddecnllcaiaaGreat
open Go.Abs Go Go.Shelf
def lsort_ren : Go.Shelf.Ren := ⟨fun | 6 => 58 | 15 => 89 | 14 => 95 | 28 => 123 | 29 => 124 | 20 => 133 | 21 => 134 | 22 => 135 | 23 => 136 | 24 => 137 | 25 => 138 | 26 => 139 | 27 => 140 | 46 => 168 | 47 => 156 | 48 => 157 | 49 => 169 | 50 => 170 | 57 => 184 | n => n, fun | 22 => 27 | 24 => 23 | 25 => 82 | 3 => 3 | 39 => 114 | 0 => 0 | 53 => 145 | 55 => 147 | 4 => 4 | 46 => 138 | 45 => 137 | 50 => 63 | 5 => 5 | 9 => 9 | 66 => 171 | 70 => 175 | 76 => 192 | 77 => 193 | n => n, fun | n => n⟩
theorem lsort : Go.Proofs.SlLaysF.n6 Tryz.prog lsort_ren := {
  mixed := by kernel_rfl
  f6 := ⟨Tryz.f58.name, by decide, Tryz.func58.trans (congrArg some (by kernel_rfl))⟩
  f14 := ⟨Tryz.f95.name, by decide, Tryz.func95.trans (congrArg some (by kernel_rfl))⟩
  f15 := Tryz.func89.trans (congrArg some (by kernel_rfl))
  f20 := ⟨Tryz.f133.name, by decide, Tryz.func133.trans (congrArg some (by kernel_rfl))⟩
  f21 := ⟨Tryz.f134.name, by decide, Tryz.func134.trans (congrArg some (by kernel_rfl))⟩
  f22 := ⟨Tryz.f135.name, by decide, Tryz.func135.trans (congrArg some (by kernel_rfl))⟩
  f23 := ⟨Tryz.f136.name, by decide, Tryz.func136.trans (congrArg some (by kernel_rfl))⟩
  f24 := ⟨Tryz.f137.name, by decide, Tryz.func137.trans (congrArg some (by kernel_rfl))⟩
  f25 := ⟨Tryz.f138.name, by decide, Tryz.func138.trans (congrArg some (by kernel_rfl))⟩
  f26 := ⟨Tryz.f139.name, by decide, Tryz.func139.trans (congrArg some (by kernel_rfl))⟩
  f27 := ⟨Tryz.f140.name, by decide, Tryz.func140.trans (congrArg some (by kernel_rfl))⟩
  f28 := Tryz.func123.trans (congrArg some (by kernel_rfl))
  f29 := Tryz.func124.trans (congrArg some (by kernel_rfl))
  f46 := ⟨Tryz.f168.name, by decide, Tryz.func168.trans (congrArg some (by kernel_rfl))⟩
  f47 := Tryz.func156.trans (congrArg some (by kernel_rfl))
  f48 := Tryz.func157.trans (congrArg some (by kernel_rfl))
  f49 := ⟨Tryz.f169.name, by decide, Tryz.func169.trans (congrArg some (by kernel_rfl))⟩
  f50 := ⟨Tryz.f170.name, by decide, Tryz.func170.trans (congrArg some (by kernel_rfl))⟩
  f57 := ⟨Tryz.f184.name, by decide, Tryz.func184.trans (congrArg some (by kernel_rfl))⟩
  t0 := Tryz.underlying0
  a0 := Tryz.isAgg0
  z0 := Tryz.sizeOf0
  v0 := Tryz.zeroValue0
  t3 := Tryz.underlying3
  a3 := Tryz.isAgg3
  z3 := Tryz.sizeOf3
  v3 := Tryz.zeroValue3
  t4 := Tryz.underlying4
  a4 := Tryz.isAgg4
  z4 := Tryz.sizeOf4
  v4 := Tryz.zeroValue4
  t5 := Tryz.underlying5
  a5 := Tryz.isAgg5
  z5 := Tryz.sizeOf5
  v5 := Tryz.zeroValue5
  t9 := Tryz.underlying9
  a9 := Tryz.isAgg9
  z9 := Tryz.sizeOf9
  v9 := Tryz.zeroValue9
  t22 := Tryz.underlying27
  a22 := Tryz.isAgg27
  z22 := Tryz.sizeOf27
  v22 := Tryz.zeroValue27
  a24 := Tryz.isAgg23
  z24 := Tryz.sizeOf23
  t25 := Tryz.underlying82
  a25 := Tryz.isAgg82
  z25 := Tryz.sizeOf82
  v25 := Tryz.zeroValue82
  t39 := Tryz.underlying114
  a39 := Tryz.isAgg114
  z39 := Tryz.sizeOf114
  v39 := Tryz.zeroValue114
  t45 := Tryz.underlying137
  a45 := Tryz.isAgg137
  z45 := Tryz.sizeOf137
  v45 := Tryz.zeroValue137
  t46 := Tryz.underlying138
  a46 := Tryz.isAgg138
  z46 := Tryz.sizeOf138
  v46 := Tryz.zeroValue138
  t50 := Tryz.underlying63
  a50 := Tryz.isAgg63
  z50 := Tryz.sizeOf63
  v50 := Tryz.zeroValue63
  t53 := Tryz.underlying145
  a53 := Tryz.isAgg145
  z53 := Tryz.sizeOf145
  v53 := Tryz.zeroValue145
  t55 := Tryz.underlying147
  a55 := Tryz.isAgg147
  z55 := Tryz.sizeOf147
  v55 := Tryz.zeroValue147
  t66 := Tryz.underlying171
  a66 := Tryz.isAgg171
  z66 := Tryz.sizeOf171
  v66 := Tryz.zeroValue171
  t70 := Tryz.underlying175
  a70 := Tryz.isAgg175
  z70 := Tryz.sizeOf175
  v70 := Tryz.zeroValue175
  t76 := Tryz.underlying192
  a76 := Tryz.isAgg192
  z76 := Tryz.sizeOf192
  v76 := Tryz.zeroValue192
  t77 := Tryz.underlying193
  a77 := Tryz.isAgg193
  z77 := Tryz.sizeOf193
  v77 := Tryz.zeroValue193 }
end Go.Proofs.YtkhddecnllcaiaaGreat
end

section
/- Contracts: comparing and sorting words. -/
namespace Go.Proofs.YtkhddecnllcaiaaGreat
open Go.Abs Go
set_option maxRecDepth 20000
set_option maxHeartbeats 2000000
attribute [local irreducible] PreK CondK CallK CallG CallX LoopK
attribute [local simp] avsEq avEq akind teq vkind vEq

theorem isNaN_c (a : Int) : CallP Tryz.prog 141 [iv a] (bv false) := by
  refine C141 (by simp) ?_
  simp [A141]
def cmpI (a b : Int) : Int := if a < b then -1 else if b < a then 1 else 0
theorem cmpInt_c (a b : Int) : CallP Tryz.prog 96 [iv a, iv b] (iv (cmpI a b)) := by
  refine C96 (by simp) ?_
  simp [A96]
  try simp 
  repeat' (first
    | (refine CallX.pure (isNaN_c a) (by simp) (by simp) ?_; try simp )
    | (refine CallK.intro (isNaN_c a) (by simp) (by simp) ?_; try simp )
    | (refine CallG.intro (fun _ => isNaN_c a) (by simp) (by simp) ?_; try simp )
    | (refine CallX.pure (isNaN_c b) (by simp) (by simp) ?_; try simp )
    | (refine CallK.intro (isNaN_c b) (by simp) (by simp) ?_; try simp )
    | (refine CallG.intro (fun _ => isNaN_c b) (by simp) (by simp) ?_; try simp )
    | ((with_reducible refine PreK.intro ?_ ?_); (next => (first | omega | (intros; first | omega | (refine ⟨by omega, ?_⟩; repeat (first | assumption | constructor)) | assumption))); intro _; try simp )
    | fail)
  refine CondK.intro (fun h1 => ?_) (fun h1 => ?_)
  · simp at h1
  · try simp 
    repeat' (first
      | ((with_reducible refine PreK.intro ?_ ?_); (next => (first | omega | (intros; first | omega | (refine ⟨by omega, ?_⟩; repeat (first | assumption | constructor)) | assumption))); intro _; try simp )
      | fail)
    refine CondK.intro (fun h2 => ?_) (fun h2 => ?_)
    · simp at h2
    · try simp 
      repeat' (first
        | ((with_reducible refine PreK.intro ?_ ?_); (next => (first | omega | (intros; first | omega | (refine ⟨by omega, ?_⟩; repeat (first | assumption | constructor)) | assumption))); intro _; try simp )
        | fail)
      refine CondK.intro (fun h3 => ?_) (fun h3 => ?_)
      · simp at h3
        simp [cmpI, h3]
      · simp at h3
        try simp 
        repeat' (first
          | ((with_reducible refine PreK.intro ?_ ?_); (next => (first | omega | (intros; first | omega | (refine ⟨by omega, ?_⟩; repeat (first | assumption | constructor)) | assumption))); intro _; try simp )
          | fail)
        refine CondK.intro (fun h4 => ?_) (fun h4 => ?_)
        · simp at h4
          simp [cmpI, h4, show ¬ a < b by omega]
        · simp at h4
          simp [cmpI, show ¬ a < b by omega, show ¬ b < a by omega]
theorem cmpW_nil : cmpW [] [] = 0 := rfl
theorem cmpW_short (y : Int) (m : List Int) : cmpW [] (y :: m) = -1 := by simp [cmpW, bef]
theorem cmpW_long (x : Int) (l : List Int) : cmpW (x :: l) [] = 1 := by simp [cmpW, bef]
theorem cmpW_cons (x y : Int) (l m : List Int) : cmpW (x :: l) (y :: m) = if cmpI x y ≠ 0 then cmpI x y else cmpW l m := by
  unfold cmpW cmpI
  by_cases h : x = y
  · subst h; simp [bef]
  · by_cases h2 : x < y
    · simp [bef, h, h2]
    · have : y < x := by omega
      simp [bef, h, h2, this]
theorem Compare_c (a b : List Int) (ha : a.length ≤ big) (hb : b.length ≤ big) : CallP Tryz.prog 59 [ints a, ints b] (iv (cmpW a b)) := by
  refine C59 (by simp) ?_
  generalize hR : cmpW a b = R
  simp [A59]
  simp only [big] at ha hb
  refine LoopK.by (fun i : Nat => ⟨[(11, iv i), (10, iv a.length), (9, ints a), (0, ints a), (1, ints b)], []⟩) (fun i => a.length - i) (fun i => i ≤ a.length ∧ i ≤ b.length ∧ cmpW (a.drop i) (b.drop i) = R) 0 (by simpa using hR) (by simp) ?_
  intro i Q' ⟨hi, hib, hc⟩ hq he hr
  try simp 
  refine CondK.intro (fun h1 => ?_) (fun h1 => ?_)
  · simp at h1
    rw [drop_cons a i h1] at hc
    try simp [h1]
    repeat' (first
      | ((with_reducible refine PreK.intro ?_ ?_); (next => (first | omega | (intros; first | omega | (refine ⟨by omega, ?_⟩; repeat (first | assumption | constructor)) | assumption))); intro _; try simp [h1])
      | fail)
    refine CondK.intro (fun h2 => ?_) (fun h2 => ?_)
    · simp at h2
      rw [List.drop_eq_nil_of_le (show b.length ≤ i by omega), cmpW_long] at hc
      try simp 
      apply hr
      simp [hc]
    · simp at h2
      rw [drop_cons b i (by omega), cmpW_cons] at hc
      try simp [h2, h1]
      repeat' (first
        | (refine CallX.pure (cmpInt_c (el a i) (el b i)) (by simp) (by simp) ?_; try simp [h2, h1])
        | (refine CallK.intro (cmpInt_c (el a i) (el b i)) (by simp) (by simp) ?_; try simp [h2, h1])
        | (refine CallG.intro (fun _ => cmpInt_c (el a i) (el b i)) (by simp) (by simp) ?_; try simp [h2, h1])
        | ((with_reducible refine PreK.intro ?_ ?_); (next => (first | omega | (intros; first | omega | (refine ⟨by omega, ?_⟩; repeat (first | assumption | constructor)) | assumption))); intro _; try simp [h2, h1])
        | fail)
      refine CondK.intro (fun h3 => ?_) (fun h3 => ?_)
      · simp at h3
        rw [if_pos h3] at hc
        try simp 
        apply hr
        simp [hc]
      · simp at h3
        rw [if_neg (by simpa using h3)] at hc
        try simp 
        repeat' (first
          | ((with_reducible refine PreK.intro ?_ ?_); (next => (first | omega | (intros; first | omega | (refine ⟨by omega, ?_⟩; repeat (first | assumption | constructor)) | assumption))); intro _; try simp )
          | fail)
        exact hq (i + 1) _ ⟨by omega, by omega, hc⟩ (by omega) (by simp)
  · simp at h1
    rw [List.drop_eq_nil_of_le (by omega)] at hc
    try simp 
    apply he
    try simp 
    refine CondK.intro (fun h2 => ?_) (fun h2 => ?_)
    · simp at h2
      rw [drop_cons b i (by omega), cmpW_short] at hc
      simp [hc]
    · simp at h2
      rw [List.drop_eq_nil_of_le (by omega), cmpW_nil] at hc
      simp [hc]

/-- A list whose equal neighbours are one. -/
def compF (p : List Int) : List (List Int) → List (List Int)
  | [] => []
  | y :: l => if y = p then compF p l else y :: compF y l
def compW : List (List Int) → List (List Int)
  | [] => []
  | x :: l => x :: compF x l
theorem compF_num : ∀ (p : List Int) (l : List (List Int)), (compF p l).length ≤ l.length
  | p, [] => by simp [compF]
  | p, y :: l => by
    rw [compF]
    split
    · have := compF_num p l; simp; omega
    · have := compF_num y l; simp; omega
end Go.Proofs.YtkhddecnllcaiaaGreat
end

section
/- Contracts: equal neighbours left out, and the sort of words. -/
namespace Go.Proofs.YtkhddecnllcaiaaGreat
open Go.Abs Go
set_option maxRecDepth 20000
set_option maxHeartbeats 2000000
attribute [local irreducible] PreK CondK CallK CallG CallX LoopK
attribute [local simp] avsEq avEq akind teq vkind vEq

theorem take_setG {α : Type} [Inhabited α] (o : List α) (i : Nat) (v : α) (hi : i < o.length) : (o.set i v).take (i + 1) = o.take i ++ [v] := by
  rw [take_succ _ i (by simpa using hi)]
  have : el (o.set i v) i = v := by unfold el; simp [hi]
  rw [this, List.take_set, List.set_eq_of_length_le (by simp; omega)]
theorem compact_L (l : List (List Int)) (hl : l.length ≤ 1000) (hw : ∀ w ∈ l, w.length ≤ 1000) :
    CallL Tryz.prog 60 [] 1 (l.map ints) [.fn 49 [] []] (.part (compW l).length) ((compW l).map ints ++ List.replicate (l.length - (compW l).length) (.seq 1 [] true)) := by
  refine CL60 (by simp) ?_
  have hel : ∀ i, (el l i).length ≤ 1000 := by
    intro i
    by_cases h : i < l.length
    · exact hw _ (el_mem_of l i h)
    · unfold el; rw [List.getD_eq_getElem?_getD, List.getElem?_eq_none (by omega)]; simp [default]
  generalize hR : compW l = R
  simp [A60]
  refine CondK.intro (fun h1 => ?_) (fun h1 => ?_)
  · simp at h1
    have : R = l := by
      rw [← hR]
      match l, h1 with
      | [], _ => rfl
      | [x], _ => rfl
      | _ :: _ :: _, h1 => simp at h1; omega
    subst this
    simp
  · simp at h1
    try simp 
    have h0 : l.take 1 ++ compF (el l 0) (l.drop 1) = R := by
      rw [← hR]
      match l, h1 with
      | x :: m, _ => simp [compW, el]
    refine LoopK.by (fun k : Nat => ⟨[(5, iv ((k : Int) + 1)), (0, .sl lid 0 0 l.length), (1, .fn 49 [] [])], [(lid, some ⟨1, l.map ints, 0, false⟩)]⟩) (fun i => l.length - i) (fun k => k + 1 ≤ l.length ∧ l.take (k + 1) ++ compF (el l k) (l.drop (k + 1)) = R) 0 ⟨by omega, h0⟩ (by simp) ?_
    intro k Q' ⟨hk, hc⟩ hq he hr
    try simp 
    refine CondK.intro (fun h2 => ?_) (fun h2 => ?_)
    · simp at h2
      have h2' : k + 1 < l.length := by omega
      have h2'' : k < l.length := by omega
      have he1 := equal_c (el l (k + 1)) (el l k) (Nat.le_trans (hel _) (by unfold big; omega))
      rw [drop_cons l (k + 1) h2', compF] at hc
      repeat (refine PreK.intro (by first | omega | (intros; first | omega | (refine ⟨by omega, ?_⟩; simp_all; done) | (simp_all; done) | (simp_all; omega))) fun _ => ?_; (try simp [h2', h2'']))
      refine CallK.intro (by simpa using he1) (by simp) (by simp) ?_
      try simp 
      refine CondK.intro (fun h3 => ?_) (fun h3 => ?_)
      · simp at h3
        rw [if_pos h3, ← h3] at hc
        try simp 
        repeat' (first
          | ((with_reducible refine PreK.intro ?_ ?_); (next => (first | omega | (intros; first | omega | (refine ⟨by omega, ?_⟩; repeat (first | assumption | constructor)) | assumption))); intro _; try simp )
          | fail)
        refine LoopK.by (ι := Nat × Nat × List (List Int)) (fun x => ⟨[(7, iv ((x.1 : Int) + 1)), (5, iv x.2.1), (6, .sl lid 0 (k + 1) (l.length - (k + 1))), (0, .sl lid 0 0 l.length), (1, .fn 49 [] [])], [(lid, some ⟨1, x.2.2.map ints, 0, false⟩)]⟩) (fun x => l.length - x.1)
          (fun x => k + 1 + x.1 + 1 ≤ l.length ∧ x.2.1 ≤ k + 1 + x.1 ∧ x.2.2.length = l.length ∧ (∀ q, k + 1 + x.1 ≤ q → el x.2.2 q = el l q) ∧ x.2.2.take x.2.1 ++ compF (el l (k + 1 + x.1)) (l.drop (k + 1 + x.1 + 1)) = R) (0, k + 1, l) ⟨by dsimp only; omega, by simp, rfl, fun _ _ => rfl, hc⟩ (by simp) ?_
        intro ⟨j, i, c⟩ Q'' ⟨hj, hij, hcl, hce, hin⟩ hq' he' hr'
        dsimp only at hj hij hcl hce hin
        try simp 
        refine CondK.intro (fun h4 => ?_) (fun h4 => ?_)
        · simp at h4
          have h5 : k + 1 + j + 1 < l.length := by omega
          have e1 := hce (k + 1 + j) (by omega)
          have e2 := hce (k + 1 + (j + 1)) (by omega)
          have e3 : k + 1 + (j + 1) = k + 1 + j + 1 := rfl
          have g1 : k + 1 + j < c.length := by omega
          have g2 : k + 1 + (j + 1) < c.length := by omega
          have he2 := equal_c (el l (k + 1 + (j + 1))) (el l (k + 1 + j)) (Nat.le_trans (hel _) (by unfold big; omega))
          rw [drop_cons l _ h5, compF] at hin
          repeat (refine PreK.intro (by first | omega | (intros; first | omega | (refine ⟨by omega, ?_⟩; simp_all; done) | (simp_all; done) | (simp_all; omega))) fun _ => ?_; (try simp [g1, g2, e1, e2]))
          refine CallK.intro (by simpa using he2) (by simp) (by simp) ?_
          try simp 
          repeat (refine PreK.intro (by first | omega | (intros; first | omega | (refine ⟨by omega, ?_⟩; simp_all; done) | (simp_all; done) | (simp_all; omega))) fun _ => ?_; (try simp ))
          refine CondK.intro (fun h6 => ?_) (fun h6 => ?_)
          · simp at h6
            rw [if_neg (by rw [← e3]; exact h6)] at hin
            have g3 : i < c.length := by omega
            repeat (refine PreK.intro (by first | omega | (intros; first | omega | (refine ⟨by omega, ?_⟩; simp_all; done) | (simp_all; done) | (simp_all; omega))) fun _ => ?_; (try simp [g1, g2, e1, e2, g3]))
            refine hq' (j + 1, i + 1, c.set i (el l (k + 1 + (j + 1)))) _ ⟨by dsimp only; omega, by dsimp only; omega, by simpa using hcl, fun q hq2 => ?_, ?_⟩ (by dsimp only; omega) ?_
            · dsimp only at hq2 ⊢
              unfold el
              rw [List.getD_eq_getElem?_getD, List.getElem?_set, if_neg (by omega), ← List.getD_eq_getElem?_getD]
              exact hce q (by omega)
            · dsimp only
              rw [take_setG _ _ _ g3, List.append_assoc]
              exact hin
            · simp [List.map_set]
          · simp at h6
            rw [if_pos (by rw [← e3]; exact h6)] at hin
            repeat (refine PreK.intro (by first | omega | (intros; first | omega | (refine ⟨by omega, ?_⟩; simp_all; done) | (simp_all; done) | (simp_all; omega))) fun _ => ?_; (try simp ))
            refine hq' (j + 1, i, c) _ ⟨by dsimp only; omega, by dsimp only; omega, hcl, fun q hq2 => hce q (by dsimp only at hq2; omega), ?_⟩ (by dsimp only; omega) (by simp)
            dsimp only
            rw [h6]
            exact hin
        · simp at h4
          rw [List.drop_eq_nil_of_le (by omega)] at hin
          simp only [compF, List.append_nil] at hin
          have hRl : R.length = i := by rw [← hin]; simp; omega
          try simp 
          apply he'
          have e5 : (c.map ints).take i = R.map ints := by rw [← hin, List.map_take]
          have e6 : (c.map ints).drop (i + (l.length - i)) = [] := List.drop_eq_nil_of_le (by simp; omega)
          try simp 
          repeat' (first
            | ((with_reducible refine PreK.intro ?_ ?_); (next => (first | omega | (intros; first | omega | (refine ⟨by omega, ?_⟩; repeat (first | assumption | constructor)) | assumption))); intro _; try simp )
            | fail)
          apply hr
          simp only [e5, e6, hRl]
          try simp 
      · simp at h3
        rw [if_neg h3] at hc
        repeat (refine PreK.intro (by first | omega | (intros; first | omega | (refine ⟨by omega, ?_⟩; simp_all; done) | (simp_all; done) | (simp_all; omega))) fun _ => ?_; (try simp ))
        refine hq (k + 1) _ ⟨by omega, ?_⟩ (by omega) (by simp)
        rw [take_succ l (k + 1) h2']
        simpa using hc
    · simp at h2
      rw [List.drop_eq_nil_of_le (by omega)] at hc
      simp only [compF, List.append_nil] at hc
      rw [List.take_of_length_le (by omega)] at hc
      subst hc
      try simp 
      apply he
      try simp 
      repeat' (first
        | ((with_reducible refine PreK.intro ?_ ?_); (next => (first | omega | (intros; first | omega | (refine ⟨by omega, ?_⟩; repeat (first | assumption | constructor)) | assumption))); intro _; try simp )
        | fail)
end Go.Proofs.YtkhddecnllcaiaaGreat
end

section
/- Contracts: the sorted list of words. -/
namespace Go.Proofs.YtkhddecnllcaiaaGreat
open Go.Abs Go
set_option maxRecDepth 20000
set_option maxHeartbeats 2000000
attribute [local irreducible] PreK CondK CallK CallG CallX LoopK
attribute [local simp] avsEq avEq akind teq vkind vEq

theorem sortW_len (l : List (List Int)) : (sortW l).length = l.length := (sortW_perm l).length_eq
theorem sorted_L (l : List (List Int)) (hl : l.length ≤ 1000) (hw : ∀ w ∈ l, w.length ≤ 1000) :
    CallL Tryz.prog 40 [] 1 (l.map ints) [] (.part (compW (sortW l)).length) ((compW (sortW l)).map ints ++ List.replicate (l.length - (compW (sortW l)).length) (.seq 1 [] true)) := by
  refine CL40 (by simp) ?_
  have h1 : CallL Tryz.prog 58 [] 1 (l.map ints) [.fn 59 [] []] (.val (.tup [])) ((sortW l).map ints) := callL_sort lsort Compare_c l
  have h2 := compact_L (sortW l) (by rw [sortW_len]; exact hl) (fun w h => hw w ((sortW_perm l).mem_iff.1 h))
  have hsl := sortW_len l
  have hnum : (compW (sortW l)).length ≤ l.length := by
    rw [← hsl]
    cases sortW l with
    | nil => simp [compW]
    | cons x m => simp only [compW, List.length_cons]; have := compF_num x m; omega
  generalize sortW l = s at h1 h2 hsl hnum
  generalize compW s = c at h2 hnum
  simp [A40]
  refine CallX.lend [] (id := lid) (ver := 0) (n := l.length) (b := ⟨1, l.map ints, 0, false⟩) [.fn 59 [] []] (.val (.tup [])) _ (by simp) (by simp) (by simp) (by simp) (by simp) (by simp) (by simp) (by simpa using h1) ?_
  try simp 
  refine CallX.lend [] (id := lid) (ver := 0) (n := l.length) (b := ⟨1, s.map ints, 0, false⟩) [.fn 49 [] []] (.part c.length) _ (by simp) (by simp) (by simp) (by simp) (by simp [hsl]) (by simp) (by simp) (by simpa using h2) ?_
  simp [hsl]
end Go.Proofs.YtkhddecnllcaiaaGreat
end

section
/- Contracts: feed's Reach, Ends, Next. -/
namespace Go.Proofs.YtkhddecnllcaiaaGreat
open Go.Abs Go
set_option maxRecDepth 20000
set_option maxHeartbeats 2000000
attribute [local irreducible] PreK CondK CallK CallG CallX LoopK
attribute [local simp] avsEq avEq akind teq vkind vEq

theorem weak_intsV (l : List Int) : weak (ints l) = ints l := by simp [weak, Abs.weakL_map (f := iv) (fun _ => rfl)]
theorem weak_ruleV (r : Rule) : weak (ruleV r) = ruleV r := by simp [weak, weakL, Abs.weakL_map (f := iv) (fun _ => rfl)]
theorem weak_stepV (x : Step) : weak (stepV x) = stepV x := by simp [weak, weakL]
theorem weak_graph (k : Bool) (s : List Rule) (g : Gr) : weak (gV k s g) = graphV s g := by
  unfold gV graphV
  simp only [rulesV, wordsV, ints, stepsV, weak, weakL, Abs.weakL_map weak_ruleV, Abs.weakL_map weak_intsV, Abs.weakL_map weak_stepV, Abs.weakL_map (f := iv) (fun _ => rfl)]
theorem reach_c (s : List Rule) (w : List Int) (h : Sys.small s) (hs : sysErr s = 0) (hw : wordErr w = 0) : CallP Tryz.prog 75 [rulesV s, ints w] (reachV s (reachG s w)) := by
  have hx := (reach_x s w h hs hw).weakR
  have e : ∀ R, weakR (reachX s R) = reachV s R := by
    intro R
    cases R with
    | none => rfl
    | some g => simp only [reachX, reachV, weakR, weakRL, weak_graph]; rfl
  rwa [e] at hx
def reachedV (s : List Rule) (w : Word) : AV := if swErr s w ≠ 0 then .tup [.raw (.pointer none), iv (swErr s w)] else reachV s (reachG s w)
theorem reached_c (s : List Rule) (w : List Int) (h : Sys.small s) (hw : w.length ≤ 1000) : CallP Tryz.prog 35 [rulesV s, ints w] (reachedV s w) := by
  refine C35 (by simp) ?_
  have hck := check_c s [w] h (by simp) (by simpa using hw)
  rw [check_one] at hck
  simp [A35]
  refine CallX.pure (CallP.weak (by simpa [weakL, weak] using hck)) (by simp) (by simp) ?_
  try simp 
  refine CondK.intro (fun h1 => ?_) (fun h1 => ?_)
  · simp at h1
    simp [reachedV, h1]
  · simp at h1
    have hrc := reach_c s w h (swErr_zero h1).1 (swErr_zero h1).2
    have e : reachedV s w = reachV s (reachG s w) := by simp [reachedV, h1]
    rw [e]
    cases hg : reachG s w with
    | none =>
      rw [hg] at hrc
      simp only [reachV] at hrc ⊢
      try simp 
      repeat' (first
        | (refine CallX.pure (hrc) (by simp) (by simp) ?_; try simp )
        | (refine CallK.intro (hrc) (by simp) (by simp) ?_; try simp )
        | (refine CallG.intro (fun _ => hrc) (by simp) (by simp) ?_; try simp )
        | ((with_reducible refine PreK.intro ?_ ?_); (next => (first | omega | (intros; first | omega | (refine ⟨by omega, ?_⟩; repeat (first | assumption | constructor)) | assumption))); intro _; try simp )
        | fail)
    | some g =>
      rw [hg] at hrc
      simp only [reachV] at hrc ⊢
      try simp 
      repeat' (first
        | (refine CallX.pure (hrc) (by simp) (by simp) ?_; try simp )
        | (refine CallK.intro (hrc) (by simp) (by simp) ?_; try simp )
        | (refine CallG.intro (fun _ => hrc) (by simp) (by simp) ?_; try simp )
        | ((with_reducible refine PreK.intro ?_ ?_); (next => (first | omega | (intros; first | omega | (refine ⟨by omega, ?_⟩; repeat (first | assumption | constructor)) | assumption))); intro _; try simp )
        | fail)
/-- The words, each once, in order. -/
def uniq (l : List Word) : List Word := compW (sortW l)
theorem uniq_len (l : List Word) : (uniq l).length ≤ l.length := by
  unfold uniq
  have := (sortW_perm l).length_eq
  rw [← this]
  cases sortW l with
  | nil => simp [compW]
  | cons x m => simp only [compW, List.length_cons]; have := compF_num x m; omega
def NextR (s : List Rule) (w : Word) : List Word := uniq ((movesM s w).map (·.word))
theorem next_c (s : List Rule) (w : List Int) (h : Sys.small s) (hs : sysErr s = 0) (hw : wordErr w = 0) : CallP Tryz.prog 64 [rulesV s, ints w] (wordsV (NextR s w)) := by
  refine C64 (by simp) ?_
  have hmc := moves_c s w h hs hw
  have hmr := fun m hm => @moves_right s w hs hw m hm
  have hml := movesM_len hs hw
  unfold NextR
  generalize movesM s w = ms at hmc hmr hml
  simp [A64]
  try simp 
  repeat' (first
    | (refine CallX.pure (hmc) (by simp) (by simp) ?_; try simp )
    | (refine CallK.intro (hmc) (by simp) (by simp) ?_; try simp )
    | (refine CallG.intro (fun _ => hmc) (by simp) (by simp) ?_; try simp )
    | ((with_reducible refine PreK.intro ?_ ?_); (next => (first | omega | (intros; first | omega | (refine ⟨by omega, ?_⟩; repeat (first | assumption | constructor)) | assumption))); intro _; try simp )
    | fail)
  refine LoopK.by (ι := Nat × Nat) (fun x => ⟨[(12, iv x.1), (11, iv ms.length), (10, movesV ms), (5, .sl 5 x.2 0 x.1)], [(5, some ⟨1, (ms.take x.1).map (fun m => ints m.word), x.2, false⟩)]⟩) (fun x => ms.length - x.1) (fun x => x.1 ≤ ms.length) (0, 1) (by simp) (by simp) ?_
  intro ⟨i, v⟩ Q' hi hq he hr
  dsimp only at hi
  try simp 
  refine CondK.intro (fun h1 => ?_) (fun h1 => ?_)
  · simp at h1
    repeat (refine PreK.intro (by first | omega | (intros; first | omega | (refine ⟨by omega, ?_⟩; simp_all; done) | (simp_all; done) | (simp_all; omega))) fun _ => ?_; (try simp [h1]))
    refine hq (i + 1, v + 1) _ (by dsimp only; omega) (by dsimp only; omega) ?_
    have e2 : List.take (i + 1) (ms.map fun m => ints m.word) = List.take i (ms.map fun m => ints m.word) ++ [ints (el ms i).word] := by rw [← List.map_take, ← List.map_take, take_succ ms i h1]; simp
    simp only [ints] at e2
    simp [List.take_take, e2]
  · simp at h1
    have hil : i = ms.length := by omega
    subst hil
    try simp 
    apply he
    have hsl := sorted_L (ms.map (·.word)) (by simp; omega) (fun x hx => by
      obtain ⟨m, hm, rfl⟩ := List.mem_map.1 hx
      have := (wordErr_zero (hmr m hm)).1
      omega)
    have hsl2 : CallL Tryz.prog 40 [] 1 (ms.map fun m => ints m.word) [] (.part (uniq (ms.map (·.word))).length) ((uniq (ms.map (·.word))).map ints ++ List.replicate (ms.length - (uniq (ms.map (·.word))).length) (.seq 1 [] true)) := by
      simpa [uniq, List.map_map, Function.comp_def] using hsl
    generalize uniq (ms.map (·.word)) = U at hsl2
    try simp 
    refine CallX.lend [] (id := 5) (ver := v) (n := ms.length) (b := ⟨1, ms.map fun m => ints m.word, v, false⟩) [] (.part U.length) _ (by simp) (by simp) (by simp) (by simp) (by simp) (by simp) (by simp) (by simpa using hsl2) ?_
    try simp 
theorem addG_ok {s : List Rule} {i : Nat} : ∀ {l : List Move} {g g' : Gr}, (∀ m ∈ l, wordErr m.word = 0) → g.ok → addG i g l = some g' → g'.ok
  | [], g, g', _, h, e => by
    simp only [addG, Option.some.injEq] at e
    subst e; exact h
  | m :: l, g, g', hl, h, e => by
    rw [addG] at e
    split at e
    · exact addG_ok (s := s) (fun x hx => hl x (by simp [hx])) h e
    · split at e
      · cases e
      · rename_i h3
        exact addG_ok (s := s) (fun x hx => hl x (by simp [hx])) (h.push (hl m (by simp)) h3) e
theorem closeG_ok {s : List Rule} (hs : sysErr s = 0) : ∀ {n i : Nat} {g g' : Gr}, g.ok → closeG s n i g = some g' → g'.ok
  | 0, i, g, g', h, e => by
    simp only [closeG, Option.some.injEq] at e
    subst e; exact h
  | n + 1, i, g, g', h, e => by
    rw [closeG] at e
    split at e
    · rename_i hi
      cases ha : addG i g (movesM s (el g.ws i)) with
      | none => rw [ha] at e; cases e
      | some g2 =>
        rw [ha] at e
        exact closeG_ok hs (addG_ok (s := s) (fun m hm => moves_right hs (h.fine _ (el_mem_of g.ws i hi)) hm) h ha) e
    · simp only [Option.some.injEq] at e
      subst e; exact h
theorem reachG_ok {s : List Rule} {w : Word} {g : Gr} (h : swErr s w = 0) (e : reachG s w = some g) : g.ok := closeG_ok (swErr_zero h).1 (Gr.start (swErr_zero h).2) e
end Go.Proofs.YtkhddecnllcaiaaGreat
end

section
/- Plain: words put in order one by one, and sorted all at once, are the same. -/
namespace Go.Proofs.YtkhddecnllcaiaaGreat
open Go.Abs Go

/-- A word put in its place; left out if it is there. -/
def insM (x : Word) : List Word → List Word
  | [] => [x]
  | y :: l => if bef y x then y :: insM x l else if y = x then y :: l else x :: y :: l
theorem mem_insM {x z : Word} : ∀ {l : List Word}, z ∈ insM x l ↔ z = x ∨ z ∈ l
  | [] => by simp [insM]
  | y :: l => by
    rw [insM]
    split
    · simp only [List.mem_cons, mem_insM (l := l)]
      constructor
      · rintro (h | h | h)
        · exact .inr (.inl h)
        · exact .inl h
        · exact .inr (.inr h)
      · rintro (h | h | h)
        · exact .inr (.inl h)
        · exact .inl h
        · exact .inr (.inr h)
    · split
      · rename_i h
        subst h
        simp
      · simp
theorem insM_sorted {x : Word} : ∀ {l : List Word}, sortedW l → sortedW (insM x l)
  | [], _ => by simp [insM, sortedW]
  | y :: l, h => by
    have h0 := h
    unfold sortedW at h
    rw [List.pairwise_cons] at h
    rw [insM]
    split
    · rename_i hb
      unfold sortedW
      rw [List.pairwise_cons]
      refine ⟨fun z hz => ?_, insM_sorted h.2⟩
      rcases mem_insM.1 hz with rfl | hz
      · exact hb
      · exact h.1 z hz
    · rename_i hb
      split
      · exact h0
      · rename_i hne
        have hxy : bef x y = true := by
          rcases bef_total hne with e | e
          · exact absurd e hb
          · exact e
        unfold sortedW
        rw [List.pairwise_cons]
        refine ⟨fun z hz => ?_, h0⟩
        rcases List.mem_cons.1 hz with rfl | hz
        · exact hxy
        · exact bef_trans hxy (h.1 z hz)
theorem insM_len (x : Word) : ∀ l : List Word, (insM x l).length ≤ l.length + 1
  | [] => by simp [insM]
  | y :: l => by
    rw [insM]
    split
    · have := insM_len x l; simp; omega
    · split <;> simp
def insA : List Word → List Word → List Word
  | acc, [] => acc
  | acc, x :: l => insA (insM x acc) l
theorem insA_spec : ∀ (l acc : List Word), sortedW acc → sortedW (insA acc l) ∧ ∀ z, z ∈ insA acc l ↔ z ∈ acc ∨ z ∈ l
  | [], acc, h => ⟨h, fun z => by simp [insA]⟩
  | x :: l, acc, h => by
    obtain ⟨h1, h2⟩ := insA_spec l (insM x acc) (insM_sorted h)
    refine ⟨h1, fun z => ?_⟩
    rw [insA, h2, mem_insM, List.mem_cons]
    constructor
    · rintro ((h | h) | h)
      · exact .inr (.inl h)
      · exact .inl h
      · exact .inr (.inr h)
    · rintro (h | h | h)
      · exact .inl (.inr h)
      · exact .inl (.inl h)
      · exact .inr h
theorem insA_len : ∀ (l acc : List Word), (insA acc l).length ≤ acc.length + l.length
  | [], acc => by simp [insA]
  | x :: l, acc => by
    have := insA_len l (insM x acc)
    have := insM_len x acc
    rw [insA]; simp; omega
theorem compF_spec : ∀ (p : Word) (l : List Word), inOrder (p :: l) → sortedW (p :: compF p l) ∧ ∀ z, z ∈ p :: compF p l ↔ z ∈ p :: l
  | p, [], _ => by simp [compF, sortedW]
  | p, y :: l, h => by
    unfold inOrder at h
    rw [List.pairwise_cons] at h
    rw [compF]
    split
    · rename_i e
      subst e
      obtain ⟨h1, h2⟩ := compF_spec y l h.2
      exact ⟨h1, fun z => by rw [h2]; simp⟩
    · rename_i e
      obtain ⟨h1, h2⟩ := compF_spec y l h.2
      have hpy : bef p y = true := by
        rcases bef_total e with k | k
        · rw [h.1 y (by simp)] at k; cases k
        · exact k
      refine ⟨?_, fun z => ?_⟩
      · have h3 := h1
        unfold sortedW at h1 ⊢
        rw [List.pairwise_cons] at h1 ⊢
        refine ⟨fun z hz => ?_, h3⟩
        rcases List.mem_cons.1 hz with rfl | hz
        · exact hpy
        · exact bef_trans hpy (h1.1 z hz)
      · rw [List.mem_cons, h2, ← List.mem_cons]
theorem uniq_sorted (l : List Word) : sortedW (uniq l) ∧ ∀ z, z ∈ uniq l ↔ z ∈ l := by
  unfold uniq
  have ho := sortW_order l
  have hm : ∀ z, z ∈ sortW l ↔ z ∈ l := fun z => (sortW_perm l).mem_iff
  generalize sortW l = m at ho hm
  cases m with
  | nil => exact ⟨List.Pairwise.nil, fun z => by rw [← hm]; simp [compW]⟩
  | cons x m =>
    obtain ⟨h1, h2⟩ := compF_spec x m ho
    exact ⟨h1, fun z => by rw [← hm]; exact h2 z⟩
theorem uniq_insA {l m : List Word} (h : ∀ z, z ∈ l ↔ z ∈ m) : uniq l = insA [] m := by
  obtain ⟨h1, h2⟩ := uniq_sorted l
  obtain ⟨h3, h4⟩ := insA_spec m [] List.Pairwise.nil
  exact sorted_eq h1 h3 fun z => by rw [h2, h4]; simp [h]
end Go.Proofs.YtkhddecnllcaiaaGreat
end

section
/- Plain: the two searches, the program's and the reference's, find the same words. -/
namespace Go.Proofs.YtkhddecnllcaiaaGreat
open Go.Abs Go

theorem el_app_left {α : Type} [Inhabited α] (a b : List α) {i : Nat} (h : i < a.length) : el (a ++ b) i = el a i := by
  unfold el; rw [List.getD_eq_getElem?_getD, List.getD_eq_getElem?_getD, List.getElem?_append_left h]
theorem el_app_mid {α : Type} [Inhabited α] (a : List α) (x : α) : el (a ++ [x]) a.length = x := by
  unfold el; simp
theorem el_mapG {α β : Type} [Inhabited α] [Inhabited β] (f : α → β) (l : List α) {k : Nat} (h : k < l.length) : el (l.map f) k = f (el l k) := by
  rw [el_eq _ _ (by simpa using h), el_eq _ _ h]; simp
/-! ### the program's search -/
def nxP (s : List Rule) (v : Word) : List Word := (movesM s v).map (·.word)
/-- What whence and by which step say. -/
structure GrD (s : List Rule) (g : Gr) (ws : List WN) : Prop where
  words : g.ws = ws.map (·.1)
  frm : g.frm.length = ws.length
  stp : g.stp.length = ws.length
  root : 0 < ws.length → el g.frm 0 = -1
  back : ∀ j, 0 < j → j < ws.length → ∃ i : Nat, el g.frm j = (i : Int) ∧ i < j ∧ (el ws j).2 = (el ws i).2 + 1 ∧ (⟨el g.stp j, (el ws j).1⟩ : Move) ∈ movesM s (el ws i).1
theorem addG_F {s : List Rule} {i : Nat} : ∀ {l : List Move} {g : Gr} {ws : List WN}, GrD s g ws → i < ws.length → (∀ m ∈ l, m ∈ movesM s (el ws i).1) →
    match addG i g l, addF ((el ws i).2 + 1) ws (l.map (·.word)) with
    | some g', some ws' => GrD s g' ws'
    | none, none => True
    | _, _ => False
  | [], g, ws, h, _, _ => by simpa [addG, addF] using h
  | m :: l, g, ws, h, hi, hl => by
    rw [addG, List.map_cons, addF, h.words]
    by_cases hm : m.word ∈ ws.map (·.1)
    · rw [if_pos hm, if_pos hm]
      exact addG_F h hi fun x hx => hl x (by simp [hx])
    · rw [if_neg hm, if_neg hm, List.length_map]
      by_cases h3 : ws.length = 300
      · rw [if_pos h3, if_pos h3]; trivial
      · rw [if_neg h3, if_neg h3]
        have e : el (ws ++ [(m.word, (el ws i).2 + 1)]) i = el ws i := el_app_left _ _ hi
        have hn : GrD s ⟨ws.map (·.1) ++ [m.word], g.frm ++ [(i : Int)], g.stp ++ [m.step]⟩ (ws ++ [(m.word, (el ws i).2 + 1)]) := by
          refine ⟨by simp, by simp [h.frm], by simp [h.stp], fun _ => ?_, fun j h0 hj => ?_⟩
          · dsimp only
            rw [el_app_left _ _ (by have := h.frm; omega)]
            exact h.root (by omega)
          · dsimp only
            by_cases hjl : j < ws.length
            · obtain ⟨k, h1, h2, h4, h5⟩ := h.back j h0 hjl
              refine ⟨k, ?_, h2, ?_, ?_⟩
              · rw [el_app_left _ _ (by have := h.frm; omega)]; exact h1
              · rw [el_app_left _ _ hjl, el_app_left _ _ (by omega)]; exact h4
              · rw [el_app_left _ _ hjl, el_app_left _ _ (by omega), el_app_left _ _ (by have := h.stp; omega)]; exact h5
            · have hjl : j = ws.length := by simp at hj; omega
              subst hjl
              refine ⟨i, ?_, hi, ?_, ?_⟩
              · rw [← h.frm, el_app_mid]
              · rw [el_app_mid, e]
              · rw [el_app_mid, e, ← h.stp, el_app_mid]
                exact hl m (by simp)
        have ih := addG_F (i := i) (l := l) hn (by simp; omega) (fun x hx => by rw [e]; exact hl x (by simp [hx]))
        rw [e] at ih
        exact ih
theorem closeG_F {s : List Rule} : ∀ (n i : Nat) {g : Gr} {ws : List WN}, GrD s g ws →
    match closeG s n i g, closeF (nxP s) n i ws with
    | some g', some ws' => GrD s g' ws'
    | none, none => True
    | _, _ => False
  | 0, i, g, ws, h => by simpa [closeG, closeF] using h
  | n + 1, i, g, ws, h => by
    rw [closeG, closeF]
    have hl : g.ws.length = ws.length := by rw [h.words]; simp
    by_cases hi : i < ws.length
    · rw [if_pos (by omega), if_pos hi]
      have ew : el g.ws i = (el ws i).1 := by rw [h.words, el_mapG _ _ hi]
      have ha := addG_F (s := s) (i := i) (l := movesM s (el ws i).1) h hi (fun m hm => hm)
      rw [ew]
      unfold nxP at *
      cases h1 : addG i g (movesM s (el ws i).1) with
      | none =>
        cases h2 : addF ((el ws i).2 + 1) ws ((movesM s (el ws i).1).map (·.word)) with
        | none => trivial
        | some ws' => rw [h1, h2] at ha; exact ha.elim
      | some g' =>
        cases h2 : addF ((el ws i).2 + 1) ws ((movesM s (el ws i).1).map (·.word)) with
        | none => rw [h1, h2] at ha; exact ha.elim
        | some ws' =>
          rw [h1, h2] at ha
          exact closeG_F n (i + 1) ha
    · rw [if_neg (by omega), if_neg hi]
      exact h
theorem reachG_F (s : List Rule) (w : Word) :
    match reachG s w, closeM (nxP s) w with
    | some g', some ws' => GrD s g' ws'
    | none, none => True
    | _, _ => False := by
  refine closeG_F 301 0 ⟨rfl, rfl, rfl, fun _ => rfl, fun j h0 hj => ?_⟩
  simp at hj; omega
/-! ### the reference's search -/
def nxR (s : List Rule) (v : Word) : List Word := insA [] (nxP s v)
theorem mem_nxR {s : List Rule} {v x : Word} : x ∈ nxR s v ↔ x ∈ nxP s v := by
  unfold nxR
  rw [(insA_spec _ [] List.Pairwise.nil).2]
  simp
/-- The place of a word, or -1. -/
def findI (l : List Word) (w : Word) : Int := idxG (fun x => decide (x = w)) 0 l
theorem idxG_lt {α : Type} [Inhabited α] (p : α → Bool) : ∀ (l : List α) (k : Nat), idxG p k l = -1 ∨ ∃ i, i < l.length ∧ idxG p k l = ((k + i : Nat) : Int) ∧ p (el l i) = true
  | [], k => .inl rfl
  | x :: l, k => by
    by_cases h : p x = true
    · exact .inr ⟨0, by simp, by simp [idxG, h], by simpa [el] using h⟩
    · rcases idxG_lt p l (k + 1) with e | ⟨i, h1, h2, h3⟩
      · exact .inl (by simp [idxG, h, e])
      · refine .inr ⟨i + 1, by simp; omega, ?_, by simpa [el] using h3⟩
        rw [idxG, if_neg h, h2]
        omega
theorem findI_mem (l : List Word) (w : Word) : decide (0 ≤ findI l w) = decide (w ∈ l) := by
  unfold findI
  rw [idxG_any, Bool.eq_iff_iff]
  simp
theorem findI_spec {l : List Word} {w : Word} (h : w ∈ l) : ∃ i, i < l.length ∧ findI l w = (i : Int) ∧ el l i = w := by
  rcases idxG_lt (fun x => decide (x = w)) l 0 with e | ⟨i, h1, h2, h3⟩
  · have := findI_mem l w
    unfold findI at this
    rw [e] at this
    simp [h] at this
  · exact ⟨i, h1, by unfold findI; rw [h2]; simp, by simpa using h3⟩
theorem findI_no {l : List Word} {w : Word} (h : w ∉ l) : findI l w = -1 := by
  rcases idxG_lt (fun x => decide (x = w)) l 0 with e | ⟨i, h1, h2, h3⟩
  · exact e
  · simp only [decide_eq_true_eq] at h3
    exact absurd (by rw [← h3]; exact el_mem_of l i h1) h
structure RG where
  ws : List Word
  nx : List (List Int)
  far : List Int
/-- The words to which one leads: their places, and the new ones put at the end. -/
def raddG (d : Int) : List Word → List Int → List Int → List Word → Option (List Word × List Int × List Int)
  | ws, fr, l, [] => some (ws, fr, l)
  | ws, fr, l, v :: m => if findI ws v < 0 then if ws.length = 300 then none else raddG d (ws ++ [v]) (fr ++ [d]) (l ++ [(ws.length : Int)]) m else raddG d ws fr (l ++ [findI ws v]) m
def rcloseG (s : List Rule) : Nat → Nat → RG → Option RG
  | 0, _, g => some g
  | n + 1, i, g => if i < g.ws.length then match raddG (el g.far i + 1) g.ws g.far [] (nxR s (el g.ws i)) with
      | none => none
      | some (ws, fr, l) => rcloseG s n (i + 1) ⟨ws, g.nx ++ [l], fr⟩
    else some g
def rreachG (s : List Rule) (w : Word) : Option RG := rcloseG s 301 0 ⟨[w], [], [0]⟩
/-- A list of places of words. -/
def atsOf (ws : List Word) (l : List Int) (m : List Word) : Prop := l.length = m.length ∧ ∀ q, q < m.length → ∃ k : Nat, el l q = (k : Int) ∧ k < ws.length ∧ el ws k = el m q
theorem atsOf.more {ws : List Word} {l : List Int} {m : List Word} (h : atsOf ws l m) (t : List Word) : atsOf (ws ++ t) l m := by
  refine ⟨h.1, fun q hq => ?_⟩
  obtain ⟨k, h1, h2, h3⟩ := h.2 q hq
  exact ⟨k, h1, by simp; omega, by rw [el_app_left _ _ h2]; exact h3⟩
theorem atsOf.push {ws : List Word} {l : List Int} {m : List Word} (h : atsOf ws l m) {k : Nat} (hk : k < ws.length) : atsOf ws (l ++ [(k : Int)]) (m ++ [el ws k]) := by
  refine ⟨by simp [h.1], fun q hq => ?_⟩
  by_cases hq2 : q < m.length
  · obtain ⟨j, h1, h2, h3⟩ := h.2 q hq2
    exact ⟨j, by rw [el_app_left _ _ (by have := h.1; omega)]; exact h1, h2, by rw [el_app_left _ _ hq2]; exact h3⟩
  · have hq3 : q = m.length := by simp at hq; omega
    subst hq3
    exact ⟨k, by rw [← h.1, el_app_mid], hk, by rw [el_app_mid]⟩
theorem raddG_F {d : Nat} : ∀ {m : List Word} {ws : List WN} {l : List Int} {m0 : List Word}, atsOf (ws.map (·.1)) l m0 →
    match raddG (d : Int) (ws.map (·.1)) (ws.map fun x => (x.2 : Int)) l m, addF d ws m with
    | some r, some ws' => r.1 = ws'.map (·.1) ∧ r.2.1 = ws'.map (fun x => (x.2 : Int)) ∧ (∃ t, ws' = ws ++ t) ∧ atsOf (ws'.map (·.1)) r.2.2 (m0 ++ m)
    | none, none => True
    | _, _ => False
  | [], ws, l, m0, h => by
    rw [raddG, addF]
    exact ⟨rfl, rfl, ⟨[], by simp⟩, by simpa using h⟩
  | v :: m, ws, l, m0, h => by
    rw [raddG, addF]
    by_cases hv : v ∈ ws.map (·.1)
    · obtain ⟨i, h1, h2, h3⟩ := findI_spec hv
      rw [if_pos hv, if_neg (by omega), h2]
      have hp := h.push h1
      rw [h3] at hp
      have ih := raddG_F (d := d) (m := m) hp
      rw [List.append_assoc, List.singleton_append] at ih
      exact ih
    · rw [if_neg hv, if_pos (by rw [findI_no hv]; decide), List.length_map]
      by_cases h3 : ws.length = 300
      · rw [if_pos h3, if_pos h3]; trivial
      · rw [if_neg h3, if_neg h3]
        have hm : atsOf ((ws ++ [(v, d)]).map (·.1)) l m0 := by
          rw [List.map_append]
          exact h.more _
        have hp := hm.push (k := ws.length) (by simp)
        have e : el ((ws ++ [(v, d)]).map (·.1)) ws.length = v := by
          have := el_app_mid (ws.map (·.1)) v
          rw [List.length_map] at this
          simpa using this
        rw [e] at hp
        have ih := raddG_F (d := d) (m := m) hp
        rw [List.append_assoc, List.singleton_append] at ih
        rw [show ws.map (·.1) ++ [v] = (ws ++ [(v, d)]).map (·.1) by simp, show (ws.map fun x => (x.2 : Int)) ++ [(d : Int)] = (ws ++ [(v, d)]).map fun x => (x.2 : Int) by simp]
        revert ih
        cases raddG (d : Int) ((ws ++ [(v, d)]).map (·.1)) ((ws ++ [(v, d)]).map fun x => (x.2 : Int)) (l ++ [(ws.length : Int)]) m with
        | none =>
          cases addF d (ws ++ [(v, d)]) m with
          | none => intro _; trivial
          | some ws' => intro ih; exact ih.elim
        | some r =>
          cases addF d (ws ++ [(v, d)]) m with
          | none => intro ih; exact ih
          | some ws' =>
            rintro ⟨h1, h2, ⟨t, h4⟩, h5⟩
            exact ⟨h1, h2, ⟨(v, d) :: t, by rw [h4]; simp⟩, h5⟩
/-- What the reference's graph is. -/
structure RGD (s : List Rule) (i : Nat) (g : RG) (ws : List WN) : Prop where
  words : g.ws = ws.map (·.1)
  far : g.far = ws.map fun x => (x.2 : Int)
  num : g.nx.length = i
  nx : ∀ j, j < i → atsOf g.ws (el g.nx j) (nxR s (el g.ws j))
theorem rcloseG_F {s : List Rule} : ∀ (n i : Nat) {g : RG} {ws : List WN}, n + i = 301 → ws.length ≤ 300 → i ≤ ws.length → RGD s i g ws →
    match rcloseG s n i g, closeF (nxR s) n i ws with
    | some g', some ws' => RGD s ws'.length g' ws' ∧ ws'.length ≤ 300
    | none, none => True
    | _, _ => False
  | 0, i, g, ws, hn, hw, hi, h => by omega
  | n + 1, i, g, ws, hn, hw, hi, h => by
    rw [rcloseG, closeF]
    have hl : g.ws.length = ws.length := by rw [h.words]; simp
    by_cases hi2 : i < ws.length
    · rw [if_pos (by omega), if_pos hi2]
      have ew : el g.ws i = (el ws i).1 := by rw [h.words, el_mapG _ _ hi2]
      have ef : el g.far i + 1 = (((el ws i).2 + 1 : Nat) : Int) := by rw [h.far, el_mapG _ _ hi2]; omega
      have ha := raddG_F (d := (el ws i).2 + 1) (m := nxR s (el ws i).1) (ws := ws) (l := []) (m0 := []) ⟨rfl, fun q hq => by simp at hq⟩
      rw [ew, ef, h.words, h.far]
      cases h1 : raddG (((el ws i).2 + 1 : Nat) : Int) (ws.map (·.1)) (ws.map fun x => (x.2 : Int)) [] (nxR s (el ws i).1) with
      | none =>
        cases h2 : addF ((el ws i).2 + 1) ws (nxR s (el ws i).1) with
        | none => trivial
        | some ws' => rw [h1, h2] at ha; exact ha.elim
      | some r =>
        cases h2 : addF ((el ws i).2 + 1) ws (nxR s (el ws i).1) with
        | none => rw [h1, h2] at ha; exact ha.elim
        | some ws' =>
          rw [h1, h2] at ha
          obtain ⟨a1, a2, ⟨t, a3⟩, a4⟩ := ha
          obtain ⟨rw1, rw2, rw3⟩ := r
          dsimp only at a1 a2 a4 ⊢
          have hlen : ws'.length ≤ 300 := by
            have key : ∀ (m : List Word) (d : Nat) (ws ws' : List WN), ws.length ≤ 300 → addF d ws m = some ws' → ws'.length ≤ 300 := by
              intro m
              induction m with
              | nil => intro d ws ws' hw h; simp only [addF, Option.some.injEq] at h; subst h; exact hw
              | cons v m ih =>
                intro d ws ws' hw h
                rw [addF] at h
                split at h
                · exact ih d ws ws' hw h
                · split at h
                  · cases h
                  · rename_i h300
                    exact ih d _ ws' (by simp; omega) h
            exact key _ _ _ _ hw h2
          refine rcloseG_F n (i + 1) (by omega) hlen (by rw [a3]; simp; omega) ⟨a1, a2, by simp [h.num], fun j hj => ?_⟩
          dsimp only
          by_cases hj2 : j < i
          · rw [el_app_left _ _ (by have := h.num; omega)]
            have := (h.nx j hj2).more (t.map (·.1))
            have e1 : g.ws ++ t.map (·.1) = rw1 := by rw [a1, a3, h.words]; simp
            rw [e1] at this
            have e2 : el rw1 j = el g.ws j := by rw [← e1, el_app_left _ _ (by omega)]
            rw [e2]; exact this
          · have hj3 : j = i := by omega
            subst hj3
            have e1 : el (g.nx ++ [rw3]) j = rw3 := by
              have := el_app_mid g.nx rw3
              rw [h.num] at this; exact this
            have e2 : el rw1 j = (el ws j).1 := by rw [a1, a3, el_mapG _ _ (by simp; omega), el_app_left _ _ hi2]
            rw [e1, e2, a1]
            simpa using a4
    · rw [if_neg (by omega), if_neg hi2]
      have : i = ws.length := by omega
      subst this
      exact ⟨h, hw⟩
theorem rreachG_F (s : List Rule) (w : Word) :
    match rreachG s w, closeM (nxR s) w with
    | some g', some ws' => RGD s ws'.length g' ws' ∧ ws'.length ≤ 300
    | none, none => True
    | _, _ => False := by
  refine rcloseG_F 301 0 (by omega) (by simp) (by simp) ⟨rfl, rfl, rfl, fun j hj => by omega⟩
/-- Both searches, side by side. -/
theorem graphs_same (s : List Rule) (w : Word) :
    match reachG s w, rreachG s w with
    | some g, some r => ∃ ws rs : List WN, GrD s g ws ∧ RGD s rs.length r rs ∧ Closed (nxP s) w ws ∧ Closed (nxR s) w rs ∧ ∀ y, y ∈ ws ↔ y ∈ rs
    | none, none => True
    | _, _ => False := by
  have h1 := reachG_F s w
  have h2 := rreachG_F s w
  have h3 := closeM_same (nx := nxP s) (nx' := nxR s) (fun v x => mem_nxR.symm) w
  cases c1 : closeM (nxP s) w with
  | none =>
    cases c2 : closeM (nxR s) w with
    | none =>
      rw [c1] at h1; rw [c2] at h2
      cases g1 : reachG s w with
      | none =>
        cases g2 : rreachG s w with
        | none => trivial
        | some r => rw [g2] at h2; exact h2.elim
      | some g => rw [g1] at h1; exact h1.elim
    | some rs => rw [c1, c2] at h3; exact h3.elim
  | some ws =>
    cases c2 : closeM (nxR s) w with
    | none => rw [c1, c2] at h3; exact h3.elim
    | some rs =>
      rw [c1, c2] at h3
      rw [c1] at h1; rw [c2] at h2
      cases g1 : reachG s w with
      | none => rw [g1] at h1; exact h1.elim
      | some g =>
        cases g2 : rreachG s w with
        | none => rw [g2] at h2; exact h2.elim
        | some r =>
          rw [g1] at h1; rw [g2] at h2
          exact ⟨ws, rs, h1, h2.1, closeM_some c1, closeM_some c2, h3⟩
end Go.Proofs.YtkhddecnllcaiaaGreat
end
