/- Part 7 of the proof: contracts of further functions that the statement reaches; proved without conditions beyond those each theorem states. -/
import Derived.Test.YtaooenmkofjafaaV6
set_option linter.unusedSimpArgs false
set_option linter.unusedVariables false
set_option maxRecDepth 20000

namespace Go.Proofs.Ytaooenmkofjafaa
open Go.Abs Go

/-- vyakarana vyakaranaref04.Winner -/
def A35 : ACode :=
  (.seq (.reg [] [⟨some 6, (.alloc 37), 0, none⟩,
      ⟨some 7, (.assign (.const (.bool false))), 4, none⟩,
      ⟨some 8, (.assign (.const (.int .i64 0))), 29, none⟩])
    (.seq (.reg [] [⟨some 12, (.move (.tmp 0)), 22, none⟩,
      ⟨some 13, (.move (.tmp 1)), 23, none⟩,
      ⟨some 14, (.move (.tmp 2)), 23, none⟩,
      ⟨some 15, (.call ⟨(.value (.func 109)), #[(.tmp 12), (.tmp 13), (.tmp 14)], #[22, 23, 23]⟩), 29, none⟩,
      ⟨some 9, (.assign (.tmp 15)), 29, none⟩])
    (.seq (.seq (.reg [] [⟨some 16, (.move (.tmp 9)), 29, none⟩,
      ⟨some 17, (.binOp .neq 29 (.tmp 16) (.const (.int .i64 0)) 29), 4, none⟩])
    (.cond (.tmp 17)
    (.seq (.reg [] [⟨some 18, (.build 37 #[]), 37, none⟩,
      ⟨some 19, (.move (.tmp 9)), 29, none⟩,
      ⟨none, (.store 37 (.tmp 6) (.tmp 18)), 0, none⟩,
      ⟨some 7, (.assign (.const (.bool false))), 4, none⟩,
      ⟨some 8, (.assign (.tmp 19)), 29, none⟩])
    .ret)
    .skip))
    (.seq (.reg [] [⟨some 21, (.move (.tmp 0)), 22, none⟩,
      ⟨some 22, (.move (.tmp 1)), 23, none⟩,
      ⟨some 23, (.move (.tmp 2)), 23, none⟩,
      ⟨some 24, (.call ⟨(.value (.func 112)), #[(.tmp 21), (.tmp 22), (.tmp 23)], #[22, 23, 23]⟩), 115, none⟩,
      ⟨some 20, (.move (.tmp 24)), 115, none⟩,
      ⟨some 25, (.extract (.tmp 20) 0), 37, none⟩,
      ⟨some 26, (.extract (.tmp 20) 1), 4, none⟩,
      ⟨some 10, (.alloc 37), 0, none⟩,
      ⟨none, (.store 37 (.tmp 10) (.tmp 25)), 0, none⟩,
      ⟨some 11, (.assign (.tmp 26)), 4, none⟩])
    (.seq (.reg [] [⟨some 27, (.load 37 (.tmp 10)), 37, none⟩,
      ⟨some 28, (.move (.tmp 11)), 4, none⟩,
      ⟨none, (.store 37 (.tmp 6) (.tmp 27)), 0, none⟩,
      ⟨some 7, (.assign (.tmp 28)), 4, none⟩,
      ⟨some 8, (.assign (.const (.int .i64 0))), 29, none⟩])
    .ret)))))
theorem C35 {args : List AV} {r : AV} (hn : args.length ≤ 29) (h : vc Try.prog T [] A35 (Fin T [(.cell 6 37), (.tmp 7), (.tmp 8)] r) ⟨envOf 0 args, []⟩) : CallP Try.prog 35 args r :=
  callP_of tok mixed Try.func35 (by kernel_rfl) (by kernel_rfl) (by kernel_rfl : Try.f35.ntmps = 29) (by kernel_rfl : Try.f35.body.bind (strip 29 (fun _ => [])) = some A35) hn h
theorem CO35 {args : List AV} {sz : Nat} {els : List AV} (hn : args.length ≤ 29) (h : vc Try.prog T [] A35 (FinO [(.cell 6 37), (.tmp 7), (.tmp 8)] sz els) ⟨envOf 0 args, []⟩) : CallO Try.prog 35 args sz els :=
  callO_of tok mixed Try.func35 (by kernel_rfl) (by kernel_rfl) (by kernel_rfl : Try.f35.ntmps = 29) (by kernel_rfl : Try.f35.body.bind (strip 29 (fun _ => [])) = some A35) hn h
theorem CL35 {pre suf : List AV} {sz : Nat} {els els' : List AV} {r : LRet} (hn : (pre ++ .sl lid 0 0 els.length :: suf).length ≤ 29) (h : vc Try.prog T [] A35 (FinL T [(.cell 6 37), (.tmp 7), (.tmp 8)] sz r els') ⟨envOf 0 (pre ++ .sl lid 0 0 els.length :: suf), [(lid, some ⟨sz, els, 0, false⟩)]⟩) : CallL Try.prog 35 pre sz els suf r els' :=
  callL_of tok mixed Try.func35 (by kernel_rfl) (by kernel_rfl) (by kernel_rfl : Try.f35.ntmps = 29) (by kernel_rfl : Try.f35.body.bind (strip 29 (fun _ => [])) = some A35) hn h


/-- vyakarana order.IsClear -/
def A36 : ACode :=
  (.seq (.reg [] [⟨some 6, (.assign (.const (.bool false))), 4, none⟩,
      ⟨some 7, (.assign (.const (.int .i64 0))), 29, none⟩])
    (.seq (.seq (.reg [] [⟨some 12, (.move (.tmp 0)), 22, none⟩,
      ⟨some 13, (.move (.tmp 1)), 23, none⟩,
      ⟨some 14, (.move (.tmp 2)), 23, none⟩,
      ⟨some 15, (.buildSlice 62 1 #[(0, (.tmp 14))]), 62, none⟩,
      ⟨some 16, (.call ⟨(.value (.func 107)), #[(.tmp 12), (.tmp 13), (.tmp 15)], #[22, 23, 62]⟩), 29, none⟩,
      ⟨some 8, (.assign (.tmp 16)), 29, none⟩])
    (.seq (.reg [] [⟨some 17, (.move (.tmp 8)), 29, none⟩,
      ⟨some 18, (.binOp .neq 29 (.tmp 17) (.const (.int .i64 0)) 29), 4, none⟩])
    (.cond (.tmp 18)
    (.seq (.reg [] [⟨some 19, (.move (.tmp 8)), 29, none⟩,
      ⟨some 6, (.assign (.const (.bool false))), 4, none⟩,
      ⟨some 7, (.assign (.tmp 19)), 29, none⟩])
    .ret)
    .skip)))
    (.seq (.reg [] [⟨some 20, (.move (.tmp 0)), 22, none⟩,
      ⟨some 21, (.move (.tmp 1)), 23, none⟩,
      ⟨some 22, (.call ⟨(.value (.func 113)), #[(.tmp 20), (.tmp 21)], #[22, 23]⟩), 117, none⟩,
      ⟨some 9, (.assign (.tmp 22)), 117, none⟩])
    (.seq (.seq (.reg [] [⟨some 23, (.move (.tmp 9)), 117, none⟩,
      ⟨some 24, (.call ⟨(.builtin .len), #[(.tmp 23)], #[117]⟩), 3, none⟩,
      ⟨some 25, (.binOp .eql 3 (.tmp 24) (.const (.int .i64 0)) 3), 4, none⟩])
    (.cond (.tmp 25)
    (.seq (.reg [] [⟨some 6, (.assign (.const (.bool true))), 4, none⟩,
      ⟨some 7, (.assign (.const (.int .i64 0))), 29, none⟩])
    .ret)
    .skip))
    (.seq (.reg [] [⟨some 27, (.move (.tmp 1)), 23, none⟩,
      ⟨some 28, (.move (.tmp 2)), 23, none⟩,
      ⟨some 29, (.move (.tmp 9)), 117, none⟩,
      ⟨some 30, (.call ⟨(.value (.func 114)), #[(.tmp 27), (.tmp 28), (.tmp 29)], #[23, 23, 117]⟩), 121, none⟩,
      ⟨some 26, (.move (.tmp 30)), 121, none⟩,
      ⟨some 31, (.extract (.tmp 26) 0), 120, none⟩,
      ⟨some 32, (.extract (.tmp 26) 1), 4, none⟩,
      ⟨some 10, (.alloc 120), 0, none⟩,
      ⟨none, (.store 120 (.tmp 10) (.tmp 31)), 0, none⟩,
      ⟨some 11, (.assign (.tmp 32)), 4, none⟩])
    (.seq (.reg [] [⟨some 33, (.move (.tmp 11)), 4, none⟩,
      ⟨some 6, (.assign (.tmp 33)), 4, none⟩,
      ⟨some 7, (.assign (.const (.int .i64 0))), 29, none⟩])
    .ret))))))
theorem C36 {args : List AV} {r : AV} (hn : args.length ≤ 34) (h : vc Try.prog T [] A36 (Fin T [(.tmp 6), (.tmp 7)] r) ⟨envOf 0 args, []⟩) : CallP Try.prog 36 args r :=
  callP_of tok mixed Try.func36 (by kernel_rfl) (by kernel_rfl) (by kernel_rfl : Try.f36.ntmps = 34) (by kernel_rfl : Try.f36.body.bind (strip 34 (fun _ => [])) = some A36) hn h
theorem CO36 {args : List AV} {sz : Nat} {els : List AV} (hn : args.length ≤ 34) (h : vc Try.prog T [] A36 (FinO [(.tmp 6), (.tmp 7)] sz els) ⟨envOf 0 args, []⟩) : CallO Try.prog 36 args sz els :=
  callO_of tok mixed Try.func36 (by kernel_rfl) (by kernel_rfl) (by kernel_rfl : Try.f36.ntmps = 34) (by kernel_rfl : Try.f36.body.bind (strip 34 (fun _ => [])) = some A36) hn h
theorem CL36 {pre suf : List AV} {sz : Nat} {els els' : List AV} {r : LRet} (hn : (pre ++ .sl lid 0 0 els.length :: suf).length ≤ 34) (h : vc Try.prog T [] A36 (FinL T [(.tmp 6), (.tmp 7)] sz r els') ⟨envOf 0 (pre ++ .sl lid 0 0 els.length :: suf), [(lid, some ⟨sz, els, 0, false⟩)]⟩) : CallL Try.prog 36 pre sz els suf r els' :=
  callL_of tok mixed Try.func36 (by kernel_rfl) (by kernel_rfl) (by kernel_rfl : Try.f36.ntmps = 34) (by kernel_rfl : Try.f36.body.bind (strip 34 (fun _ => [])) = some A36) hn h


/-- vyakarana vyakaranaref04.IsClear -/
def A37 : ACode :=
  (.seq (.reg [] [⟨some 6, (.assign (.const (.bool false))), 4, none⟩,
      ⟨some 7, (.assign (.const (.int .i64 0))), 29, none⟩])
    (.seq (.reg [] [⟨some 10, (.move (.tmp 0)), 22, none⟩,
      ⟨some 11, (.move (.tmp 1)), 23, none⟩,
      ⟨some 12, (.move (.tmp 2)), 23, none⟩,
      ⟨some 13, (.call ⟨(.value (.func 109)), #[(.tmp 10), (.tmp 11), (.tmp 12)], #[22, 23, 23]⟩), 29, none⟩,
      ⟨some 8, (.assign (.tmp 13)), 29, none⟩])
    (.seq (.seq (.reg [] [⟨some 14, (.move (.tmp 8)), 29, none⟩,
      ⟨some 15, (.binOp .neq 29 (.tmp 14) (.const (.int .i64 0)) 29), 4, none⟩])
    (.cond (.tmp 15)
    (.seq (.reg [] [⟨some 16, (.move (.tmp 8)), 29, none⟩,
      ⟨some 6, (.assign (.const (.bool false))), 4, none⟩,
      ⟨some 7, (.assign (.tmp 16)), 29, none⟩])
    .ret)
    .skip))
    (.seq (.reg [] [⟨some 17, (.move (.tmp 0)), 22, none⟩,
      ⟨some 18, (.move (.tmp 1)), 23, none⟩,
      ⟨some 19, (.call ⟨(.value (.func 115)), #[(.tmp 17), (.tmp 18)], #[22, 23]⟩), 88, none⟩,
      ⟨some 9, (.assign (.tmp 19)), 88, none⟩])
    (.seq (.reg [] [⟨some 20, (.move (.tmp 9)), 88, none⟩,
      ⟨some 21, (.call ⟨(.builtin .len), #[(.tmp 20)], #[88]⟩), 3, none⟩,
      ⟨some 22, (.binOp .lss 3 (.tmp 21) (.const (.int .i64 2)) 3), 4, none⟩,
      ⟨some 23, (.move (.tmp 22)), 4, none⟩,
      ⟨some 24, (.move (.tmp 0)), 22, some (23, false)⟩,
      ⟨some 25, (.move (.tmp 1)), 23, some (23, false)⟩,
      ⟨some 26, (.move (.tmp 2)), 23, some (23, false)⟩,
      ⟨some 27, (.move (.tmp 9)), 88, some (23, false)⟩,
      ⟨some 28, (.call ⟨(.value (.func 116)), #[(.tmp 24), (.tmp 25), (.tmp 26), (.tmp 27)], #[22, 23, 23, 88]⟩), 3, some (23, false)⟩,
      ⟨some 29, (.binOp .geq 3 (.tmp 28) (.const (.int .i64 0)) 3), 4, some (23, false)⟩,
      ⟨some 30, (.pick (.tmp 23) (.const (.bool true)) (.tmp 29)), 4, none⟩,
      ⟨some 6, (.assign (.tmp 30)), 4, none⟩,
      ⟨some 7, (.assign (.const (.int .i64 0))), 29, none⟩])
    .ret)))))
theorem C37 {args : List AV} {r : AV} (hn : args.length ≤ 31) (h : vc Try.prog T [] A37 (Fin T [(.tmp 6), (.tmp 7)] r) ⟨envOf 0 args, []⟩) : CallP Try.prog 37 args r :=
  callP_of tok mixed Try.func37 (by kernel_rfl) (by kernel_rfl) (by kernel_rfl : Try.f37.ntmps = 31) (by kernel_rfl : Try.f37.body.bind (strip 31 (fun _ => [])) = some A37) hn h
theorem CO37 {args : List AV} {sz : Nat} {els : List AV} (hn : args.length ≤ 31) (h : vc Try.prog T [] A37 (FinO [(.tmp 6), (.tmp 7)] sz els) ⟨envOf 0 args, []⟩) : CallO Try.prog 37 args sz els :=
  callO_of tok mixed Try.func37 (by kernel_rfl) (by kernel_rfl) (by kernel_rfl : Try.f37.ntmps = 31) (by kernel_rfl : Try.f37.body.bind (strip 31 (fun _ => [])) = some A37) hn h
theorem CL37 {pre suf : List AV} {sz : Nat} {els els' : List AV} {r : LRet} (hn : (pre ++ .sl lid 0 0 els.length :: suf).length ≤ 31) (h : vc Try.prog T [] A37 (FinL T [(.tmp 6), (.tmp 7)] sz r els') ⟨envOf 0 (pre ++ .sl lid 0 0 els.length :: suf), [(lid, some ⟨sz, els, 0, false⟩)]⟩) : CallL Try.prog 37 pre sz els suf r els' :=
  callL_of tok mixed Try.func37 (by kernel_rfl) (by kernel_rfl) (by kernel_rfl : Try.f37.ntmps = 31) (by kernel_rfl : Try.f37.body.bind (strip 31 (fun _ => [])) = some A37) hn h


/-- vyakarana order.CheckDerivation -/
def A38 : ACode :=
  (.seq (.reg [] [⟨some 8, (.assign (.const (.int .i64 0))), 3, none⟩,
      ⟨some 9, (.assign (.const (.int .i64 0))), 29, none⟩])
    (.seq (.seq (.reg [] [⟨some 17, (.move (.tmp 0)), 22, none⟩,
      ⟨some 18, (.move (.tmp 1)), 23, none⟩,
      ⟨some 19, (.move (.tmp 2)), 23, none⟩,
      ⟨some 20, (.buildSlice 62 1 #[(0, (.tmp 19))]), 62, none⟩,
      ⟨some 21, (.call ⟨(.value (.func 107)), #[(.tmp 17), (.tmp 18), (.tmp 20)], #[22, 23, 62]⟩), 29, none⟩,
      ⟨some 10, (.assign (.tmp 21)), 29, none⟩])
    (.seq (.reg [] [⟨some 22, (.move (.tmp 10)), 29, none⟩,
      ⟨some 23, (.binOp .neq 29 (.tmp 22) (.const (.int .i64 0)) 29), 4, none⟩])
    (.cond (.tmp 23)
    (.seq (.reg [] [⟨some 24, (.move (.tmp 10)), 29, none⟩,
      ⟨some 8, (.assign (.const (.int .i64 0))), 3, none⟩,
      ⟨some 9, (.assign (.tmp 24)), 29, none⟩])
    .ret)
    .skip)))
    (.seq (.seq (.reg [] [⟨some 25, (.move (.tmp 3)), 28, none⟩,
      ⟨some 26, (.call ⟨(.builtin .len), #[(.tmp 25)], #[28]⟩), 3, none⟩,
      ⟨some 27, (.binOp .gtr 3 (.tmp 26) (.const (.int .i64 60)) 3), 4, none⟩])
    (.cond (.tmp 27)
    (.seq (.reg [] [⟨some 8, (.assign (.const (.int .i64 0))), 3, none⟩,
      ⟨some 9, (.assign (.const (.int .i64 3))), 29, none⟩])
    .ret)
    .skip))
    (.seq (.seq (.reg [] [⟨some 28, (.move (.tmp 3)), 28, none⟩,
      ⟨some 29, (.call ⟨(.builtin .len), #[(.tmp 28)], #[28]⟩), 3, none⟩,
      ⟨some 30, (.move (.const (.int .i64 0))), 3, none⟩])
    (.block 0 (.loop (.seq (.reg [] [⟨some 31, (.binOp .lss 3 (.tmp 30) (.tmp 29) 3), 0, none⟩])
    (.seq (.cond (.tmp 31)
    .skip
    (.exit 0))
    (.seq (.block 1 (.seq (.reg [] [⟨some 32, (.move (.tmp 30)), 3, none⟩,
      ⟨some 33, (.indexAddr 28 (.tmp 28) (.tmp 30)), 0, none⟩,
      ⟨some 34, (.load 37 (.tmp 33)), 37, none⟩,
      ⟨some 12, (.alloc 37), 0, none⟩,
      ⟨some 11, (.assign (.tmp 32)), 3, none⟩,
      ⟨none, (.store 37 (.tmp 12) (.tmp 34)), 0, none⟩])
    (.seq (.reg [] [⟨some 36, (.move (.tmp 0)), 22, none⟩,
      ⟨some 37, (.move (.tmp 1)), 23, none⟩,
      ⟨some 38, (.move (.tmp 2)), 23, none⟩,
      ⟨some 39, (.call ⟨(.value (.func 111)), #[(.tmp 36), (.tmp 37), (.tmp 38)], #[22, 23, 23]⟩), 115, none⟩,
      ⟨some 35, (.move (.tmp 39)), 115, none⟩,
      ⟨some 40, (.extract (.tmp 35) 0), 37, none⟩,
      ⟨some 41, (.extract (.tmp 35) 1), 4, none⟩,
      ⟨some 13, (.alloc 37), 0, none⟩,
      ⟨none, (.store 37 (.tmp 13) (.tmp 40)), 0, none⟩,
      ⟨some 14, (.assign (.tmp 41)), 4, none⟩])
    (.seq (.seq (.reg [] [⟨some 42, (.move (.tmp 14)), 4, none⟩,
      ⟨some 43, (.unOp .not 4 (.tmp 42)), 4, none⟩,
      ⟨some 44, (.move (.tmp 43)), 4, none⟩,
      ⟨some 45, (.load 37 (.tmp 13)), 37, some (44, false)⟩,
      ⟨some 46, (.load 37 (.tmp 12)), 37, some (44, false)⟩,
      ⟨some 47, (.binOp .neq 37 (.tmp 45) (.tmp 46) 37), 4, some (44, false)⟩,
      ⟨some 48, (.pick (.tmp 44) (.const (.bool true)) (.tmp 47)), 4, none⟩])
    (.cond (.tmp 48)
    (.seq (.reg [] [⟨some 49, (.move (.tmp 11)), 3, none⟩,
      ⟨some 8, (.assign (.tmp 49)), 3, none⟩,
      ⟨some 9, (.assign (.const (.int .i64 7))), 29, none⟩])
    .ret)
    .skip))
    (.reg [] [⟨some 50, (.move (.tmp 0)), 22, none⟩,
      ⟨some 51, (.move (.tmp 1)), 23, none⟩,
      ⟨some 52, (.load 37 (.tmp 13)), 37, none⟩,
      ⟨some 53, (.call ⟨(.value (.func 117)), #[(.tmp 50), (.tmp 51), (.tmp 52)], #[22, 23, 37]⟩), 23, none⟩,
      ⟨some 1, (.assign (.tmp 53)), 23, none⟩])))))
    (.reg [] [⟨some 54, (.binOp .add 3 (.tmp 30) (.const (.int .i64 1)) 3), 3, none⟩,
      ⟨some 30, (.move (.tmp 54)), 3, none⟩])))))))
    (.seq (.seq (.reg [] [⟨some 56, (.move (.tmp 0)), 22, none⟩,
      ⟨some 57, (.move (.tmp 1)), 23, none⟩,
      ⟨some 58, (.move (.tmp 2)), 23, none⟩,
      ⟨some 59, (.call ⟨(.value (.func 111)), #[(.tmp 56), (.tmp 57), (.tmp 58)], #[22, 23, 23]⟩), 115, none⟩,
      ⟨some 55, (.move (.tmp 59)), 115, none⟩,
      ⟨some 60, (.extract (.tmp 55) 0), 37, none⟩,
      ⟨some 61, (.extract (.tmp 55) 1), 4, none⟩,
      ⟨some 15, (.alloc 37), 0, none⟩,
      ⟨none, (.store 37 (.tmp 15) (.tmp 60)), 0, none⟩,
      ⟨some 16, (.assign (.tmp 61)), 4, none⟩])
    (.seq (.reg [] [⟨some 62, (.move (.tmp 16)), 4, none⟩])
    (.cond (.tmp 62)
    (.seq (.reg [] [⟨some 63, (.move (.tmp 3)), 28, none⟩,
      ⟨some 64, (.call ⟨(.builtin .len), #[(.tmp 63)], #[28]⟩), 3, none⟩,
      ⟨some 8, (.assign (.tmp 64)), 3, none⟩,
      ⟨some 9, (.assign (.const (.int .i64 7))), 29, none⟩])
    .ret)
    .skip)))
    (.seq (.reg [] [⟨some 65, (.move (.tmp 3)), 28, none⟩,
      ⟨some 66, (.call ⟨(.builtin .len), #[(.tmp 65)], #[28]⟩), 3, none⟩,
      ⟨some 8, (.assign (.tmp 66)), 3, none⟩,
      ⟨some 9, (.assign (.const (.int .i64 0))), 29, none⟩])
    .ret))))))
theorem C38 {args : List AV} {r : AV} (hn : args.length ≤ 67) (h : vc Try.prog T [] A38 (Fin T [(.tmp 8), (.tmp 9)] r) ⟨envOf 0 args, []⟩) : CallP Try.prog 38 args r :=
  callP_of tok mixed Try.func38 (by kernel_rfl) (by kernel_rfl) (by kernel_rfl : Try.f38.ntmps = 67) (by kernel_rfl : Try.f38.body.bind (strip 67 (fun _ => [])) = some A38) hn h
theorem CO38 {args : List AV} {sz : Nat} {els : List AV} (hn : args.length ≤ 67) (h : vc Try.prog T [] A38 (FinO [(.tmp 8), (.tmp 9)] sz els) ⟨envOf 0 args, []⟩) : CallO Try.prog 38 args sz els :=
  callO_of tok mixed Try.func38 (by kernel_rfl) (by kernel_rfl) (by kernel_rfl : Try.f38.ntmps = 67) (by kernel_rfl : Try.f38.body.bind (strip 67 (fun _ => [])) = some A38) hn h
theorem CL38 {pre suf : List AV} {sz : Nat} {els els' : List AV} {r : LRet} (hn : (pre ++ .sl lid 0 0 els.length :: suf).length ≤ 67) (h : vc Try.prog T [] A38 (FinL T [(.tmp 8), (.tmp 9)] sz r els') ⟨envOf 0 (pre ++ .sl lid 0 0 els.length :: suf), [(lid, some ⟨sz, els, 0, false⟩)]⟩) : CallL Try.prog 38 pre sz els suf r els' :=
  callL_of tok mixed Try.func38 (by kernel_rfl) (by kernel_rfl) (by kernel_rfl : Try.f38.ntmps = 67) (by kernel_rfl : Try.f38.body.bind (strip 67 (fun _ => [])) = some A38) hn h


/-- vyakarana vyakaranaref04.CheckDerivation -/
def A39 : ACode :=
  (.seq (.reg [] [⟨some 8, (.assign (.const (.int .i64 0))), 3, none⟩,
      ⟨some 9, (.assign (.const (.int .i64 0))), 29, none⟩])
    (.seq (.reg [] [⟨some 15, (.move (.tmp 0)), 22, none⟩,
      ⟨some 16, (.move (.tmp 1)), 23, none⟩,
      ⟨some 17, (.move (.tmp 2)), 23, none⟩,
      ⟨some 18, (.call ⟨(.value (.func 109)), #[(.tmp 15), (.tmp 16), (.tmp 17)], #[22, 23, 23]⟩), 29, none⟩,
      ⟨some 10, (.assign (.tmp 18)), 29, none⟩])
    (.seq (.seq (.reg [] [⟨some 19, (.move (.tmp 10)), 29, none⟩,
      ⟨some 20, (.binOp .neq 29 (.tmp 19) (.const (.int .i64 0)) 29), 4, none⟩])
    (.cond (.tmp 20)
    (.seq (.reg [] [⟨some 21, (.move (.tmp 10)), 29, none⟩,
      ⟨some 8, (.assign (.const (.int .i64 0))), 3, none⟩,
      ⟨some 9, (.assign (.tmp 21)), 29, none⟩])
    .ret)
    .skip))
    (.seq (.seq (.reg [] [⟨some 22, (.move (.tmp 3)), 28, none⟩,
      ⟨some 23, (.call ⟨(.builtin .len), #[(.tmp 22)], #[28]⟩), 3, none⟩,
      ⟨some 24, (.binOp .gtr 3 (.tmp 23) (.const (.int .i64 60)) 3), 4, none⟩])
    (.cond (.tmp 24)
    (.seq (.reg [] [⟨some 8, (.assign (.const (.int .i64 0))), 3, none⟩,
      ⟨some 9, (.assign (.const (.int .i64 3))), 29, none⟩])
    .ret)
    .skip))
    (.seq (.reg [] [⟨some 26, (.move (.tmp 0)), 22, none⟩,
      ⟨some 27, (.move (.tmp 1)), 23, none⟩,
      ⟨some 28, (.move (.tmp 2)), 23, none⟩,
      ⟨some 29, (.call ⟨(.value (.func 110)), #[(.tmp 26), (.tmp 27), (.tmp 28)], #[22, 23, 23]⟩), 113, none⟩,
      ⟨some 25, (.move (.tmp 29)), 113, none⟩,
      ⟨some 30, (.extract (.tmp 25) 0), 28, none⟩,
      ⟨some 31, (.extract (.tmp 25) 1), 23, none⟩,
      ⟨some 32, (.extract (.tmp 25) 2), 4, none⟩,
      ⟨some 11, (.assign (.tmp 30)), 28, none⟩,
      ⟨some 12, (.assign (.tmp 31)), 23, none⟩,
      ⟨some 13, (.assign (.tmp 32)), 4, none⟩])
    (.seq (.seq (.reg [] [⟨some 14, (.assign (.const (.int .i64 0))), 3, none⟩])
    (.block 0 (.loop (.seq (.seq (.reg [] [⟨some 33, (.move (.tmp 14)), 3, none⟩,
      ⟨some 34, (.move (.tmp 3)), 28, none⟩,
      ⟨some 35, (.call ⟨(.builtin .len), #[(.tmp 34)], #[28]⟩), 3, none⟩,
      ⟨some 36, (.binOp .lss 3 (.tmp 33) (.tmp 35) 3), 4, none⟩])
    (.cond (.tmp 36)
    .skip
    (.exit 0)))
    (.seq (.block 1 (.seq (.draw [] [⟨some 39, (.move (.tmp 14)), 3, none⟩,
      ⟨some 40, (.move (.tmp 11)), 28, none⟩,
      ⟨some 41, (.call ⟨(.builtin .len), #[(.tmp 40)], #[28]⟩), 3, none⟩,
      ⟨some 42, (.binOp .geq 3 (.tmp 39) (.tmp 41) 3), 4, none⟩,
      ⟨some 43, (.move (.tmp 42)), 4, none⟩,
      ⟨some 44, (.move (.tmp 11)), 28, some (43, false)⟩,
      ⟨some 45, (.move (.tmp 14)), 3, some (43, false)⟩,
      ⟨some 46, (.indexAddr 28 (.tmp 44) (.tmp 45)), 0, some (43, false)⟩,
      ⟨some 47, (.load 37 (.tmp 46)), 37, some (43, false)⟩,
      ⟨some 48, (.move (.tmp 3)), 28, some (43, false)⟩,
      ⟨some 49, (.move (.tmp 14)), 3, some (43, false)⟩,
      ⟨some 50, (.indexAddr 28 (.tmp 48) (.tmp 49)), 0, some (43, false)⟩,
      ⟨some 51, (.load 37 (.tmp 50)), 37, some (43, false)⟩,
      ⟨some 52, (.binOp .neq 37 (.tmp 47) (.tmp 51) 37), 4, some (43, false)⟩,
      ⟨some 53, (.pick (.tmp 43) (.const (.bool true)) (.tmp 52)), 4, none⟩] [(0, 1), (0, 2), (5, 6), (5, 9), (6, 9), (7, 9), (8, 9), (5, 10), (6, 10), (7, 10), (8, 10), (9, 10), (5, 11), (6, 11), (7, 11), (8, 11), (5, 12), (6, 12), (7, 12), (8, 12)])
    (.cond (.tmp 53)
    (.seq (.reg [] [⟨some 54, (.move (.tmp 14)), 3, none⟩,
      ⟨some 8, (.assign (.tmp 54)), 3, none⟩,
      ⟨some 9, (.assign (.const (.int .i64 7))), 29, none⟩])
    .ret)
    .skip)))
    (.reg [] [⟨some 37, (.move (.tmp 14)), 3, none⟩,
      ⟨some 38, (.binOp .add 3 (.tmp 37) (.const (.int .i64 1)) 3), 3, none⟩,
      ⟨some 14, (.assign (.tmp 38)), 3, none⟩]))))))
    (.seq (.seq (.reg [] [⟨some 55, (.move (.tmp 11)), 28, none⟩,
      ⟨some 56, (.call ⟨(.builtin .len), #[(.tmp 55)], #[28]⟩), 3, none⟩,
      ⟨some 57, (.move (.tmp 3)), 28, none⟩,
      ⟨some 58, (.call ⟨(.builtin .len), #[(.tmp 57)], #[28]⟩), 3, none⟩,
      ⟨some 59, (.binOp .gtr 3 (.tmp 56) (.tmp 58) 3), 4, none⟩,
      ⟨some 60, (.move (.tmp 59)), 4, none⟩,
      ⟨some 61, (.move (.tmp 13)), 4, some (60, false)⟩,
      ⟨some 62, (.unOp .not 4 (.tmp 61)), 4, some (60, false)⟩,
      ⟨some 63, (.pick (.tmp 60) (.const (.bool true)) (.tmp 62)), 4, none⟩])
    (.cond (.tmp 63)
    (.seq (.reg [] [⟨some 64, (.move (.tmp 3)), 28, none⟩,
      ⟨some 65, (.call ⟨(.builtin .len), #[(.tmp 64)], #[28]⟩), 3, none⟩,
      ⟨some 8, (.assign (.tmp 65)), 3, none⟩,
      ⟨some 9, (.assign (.const (.int .i64 7))), 29, none⟩])
    .ret)
    .skip))
    (.seq (.reg [] [⟨some 66, (.move (.tmp 3)), 28, none⟩,
      ⟨some 67, (.call ⟨(.builtin .len), #[(.tmp 66)], #[28]⟩), 3, none⟩,
      ⟨some 8, (.assign (.tmp 67)), 3, none⟩,
      ⟨some 9, (.assign (.const (.int .i64 0))), 29, none⟩])
    .ret))))))))
theorem C39 {args : List AV} {r : AV} (hn : args.length ≤ 68) (h : vc Try.prog T [] A39 (Fin T [(.tmp 8), (.tmp 9)] r) ⟨envOf 0 args, []⟩) : CallP Try.prog 39 args r :=
  callP_of tok mixed Try.func39 (by kernel_rfl) (by kernel_rfl) (by kernel_rfl : Try.f39.ntmps = 68) (by kernel_rfl : Try.f39.body.bind (strip 68 (fun _ => [])) = some A39) hn h
theorem CO39 {args : List AV} {sz : Nat} {els : List AV} (hn : args.length ≤ 68) (h : vc Try.prog T [] A39 (FinO [(.tmp 8), (.tmp 9)] sz els) ⟨envOf 0 args, []⟩) : CallO Try.prog 39 args sz els :=
  callO_of tok mixed Try.func39 (by kernel_rfl) (by kernel_rfl) (by kernel_rfl : Try.f39.ntmps = 68) (by kernel_rfl : Try.f39.body.bind (strip 68 (fun _ => [])) = some A39) hn h
theorem CL39 {pre suf : List AV} {sz : Nat} {els els' : List AV} {r : LRet} (hn : (pre ++ .sl lid 0 0 els.length :: suf).length ≤ 68) (h : vc Try.prog T [] A39 (FinL T [(.tmp 8), (.tmp 9)] sz r els') ⟨envOf 0 (pre ++ .sl lid 0 0 els.length :: suf), [(lid, some ⟨sz, els, 0, false⟩)]⟩) : CallL Try.prog 39 pre sz els suf r els' :=
  callL_of tok mixed Try.func39 (by kernel_rfl) (by kernel_rfl) (by kernel_rfl : Try.f39.ntmps = 68) (by kernel_rfl : Try.f39.body.bind (strip 68 (fun _ => [])) = some A39) hn h


/-- vyakarana order.Lasts -/
def A40 : ACode :=
  (.seq (.reg [] [⟨some 6, (.box 46 (.tmp 2)), 0, none⟩,
      ⟨some 7, (.box 46 (.tmp 3)), 0, none⟩,
      ⟨some 8, (.assign (.const (.bool false))), 4, none⟩,
      ⟨some 9, (.assign (.const (.int .i64 0))), 29, none⟩])
    (.seq (.seq (.reg [] [⟨some 14, (.move (.tmp 0)), 22, none⟩,
      ⟨some 15, (.move (.tmp 1)), 23, none⟩,
      ⟨some 16, (.call ⟨(.value (.func 107)), #[(.tmp 14), (.tmp 15), (.const (.slice none 0 0))], #[22, 23, 62]⟩), 29, none⟩,
      ⟨some 10, (.assign (.tmp 16)), 29, none⟩])
    (.seq (.reg [] [⟨some 17, (.move (.tmp 10)), 29, none⟩,
      ⟨some 18, (.binOp .neq 29 (.tmp 17) (.const (.int .i64 0)) 29), 4, none⟩])
    (.cond (.tmp 18)
    (.seq (.reg [] [⟨some 19, (.move (.tmp 10)), 29, none⟩,
      ⟨some 8, (.assign (.const (.bool false))), 4, none⟩,
      ⟨some 9, (.assign (.tmp 19)), 29, none⟩])
    .ret)
    .skip)))
    (.seq (.reg [] [⟨some 21, (.move (.tmp 0)), 22, none⟩,
      ⟨some 22, (.move (.tmp 1)), 23, none⟩,
      ⟨some 23, (.load 46 (.tmp 6)), 46, none⟩,
      ⟨some 24, (.load 46 (.tmp 7)), 46, none⟩,
      ⟨some 25, (.call ⟨(.value (.func 118)), #[(.tmp 21), (.tmp 22), (.tmp 23), (.tmp 24)], #[22, 23, 46, 46]⟩), 126, none⟩,
      ⟨some 20, (.move (.tmp 25)), 126, none⟩,
      ⟨some 26, (.extract (.tmp 20) 0), 120, none⟩,
      ⟨some 27, (.extract (.tmp 20) 1), 120, none⟩,
      ⟨some 28, (.extract (.tmp 20) 2), 29, none⟩,
      ⟨some 11, (.alloc 120), 0, none⟩,
      ⟨some 12, (.alloc 120), 0, none⟩,
      ⟨none, (.store 120 (.tmp 11) (.tmp 26)), 0, none⟩,
      ⟨none, (.store 120 (.tmp 12) (.tmp 27)), 0, none⟩,
      ⟨some 13, (.assign (.tmp 28)), 29, none⟩])
    (.seq (.seq (.reg [] [⟨some 29, (.move (.tmp 13)), 29, none⟩,
      ⟨some 30, (.binOp .neq 29 (.tmp 29) (.const (.int .i64 0)) 29), 4, none⟩])
    (.cond (.tmp 30)
    (.seq (.reg [] [⟨some 31, (.move (.tmp 13)), 29, none⟩,
      ⟨some 8, (.assign (.const (.bool false))), 4, none⟩,
      ⟨some 9, (.assign (.tmp 31)), 29, none⟩])
    .ret)
    .skip))
    (.seq (.reg [] [⟨some 32, (.move (.tmp 1)), 23, none⟩,
      ⟨some 33, (.load 120 (.tmp 11)), 120, none⟩,
      ⟨some 34, (.load 120 (.tmp 12)), 120, none⟩,
      ⟨some 35, (.call ⟨(.value (.func 119)), #[(.tmp 32), (.tmp 33), (.tmp 34)], #[23, 120, 120]⟩), 4, none⟩,
      ⟨some 8, (.assign (.tmp 35)), 4, none⟩,
      ⟨some 9, (.assign (.const (.int .i64 0))), 29, none⟩])
    .ret)))))
theorem C40 {args : List AV} {r : AV} (hn : args.length ≤ 36) (h : vc Try.prog T [] A40 (Fin T [(.tmp 8), (.tmp 9)] r) ⟨envOf 0 args, []⟩) : CallP Try.prog 40 args r :=
  callP_of tok mixed Try.func40 (by kernel_rfl) (by kernel_rfl) (by kernel_rfl : Try.f40.ntmps = 36) (by kernel_rfl : Try.f40.body.bind (strip 36 (fun _ => [])) = some A40) hn h
theorem CO40 {args : List AV} {sz : Nat} {els : List AV} (hn : args.length ≤ 36) (h : vc Try.prog T [] A40 (FinO [(.tmp 8), (.tmp 9)] sz els) ⟨envOf 0 args, []⟩) : CallO Try.prog 40 args sz els :=
  callO_of tok mixed Try.func40 (by kernel_rfl) (by kernel_rfl) (by kernel_rfl : Try.f40.ntmps = 36) (by kernel_rfl : Try.f40.body.bind (strip 36 (fun _ => [])) = some A40) hn h
theorem CL40 {pre suf : List AV} {sz : Nat} {els els' : List AV} {r : LRet} (hn : (pre ++ .sl lid 0 0 els.length :: suf).length ≤ 36) (h : vc Try.prog T [] A40 (FinL T [(.tmp 8), (.tmp 9)] sz r els') ⟨envOf 0 (pre ++ .sl lid 0 0 els.length :: suf), [(lid, some ⟨sz, els, 0, false⟩)]⟩) : CallL Try.prog 40 pre sz els suf r els' :=
  callL_of tok mixed Try.func40 (by kernel_rfl) (by kernel_rfl) (by kernel_rfl : Try.f40.ntmps = 36) (by kernel_rfl : Try.f40.body.bind (strip 36 (fun _ => [])) = some A40) hn h


/-- vyakarana vyakaranaref04.Lasts -/
def A41 : ACode :=
  (.seq (.reg [] [⟨some 6, (.box 46 (.tmp 2)), 0, none⟩,
      ⟨some 7, (.box 46 (.tmp 3)), 0, none⟩,
      ⟨some 8, (.assign (.const (.bool false))), 4, none⟩,
      ⟨some 9, (.assign (.const (.int .i64 0))), 29, none⟩])
    (.seq (.reg [] [⟨some 11, (.move (.tmp 0)), 22, none⟩,
      ⟨some 12, (.move (.tmp 1)), 23, none⟩,
      ⟨some 13, (.call ⟨(.value (.func 120)), #[(.tmp 11), (.tmp 12)], #[22, 23]⟩), 29, none⟩,
      ⟨some 10, (.assign (.tmp 13)), 29, none⟩])
    (.seq (.seq (.reg [] [⟨some 14, (.move (.tmp 10)), 29, none⟩,
      ⟨some 15, (.binOp .neq 29 (.tmp 14) (.const (.int .i64 0)) 29), 4, none⟩])
    (.cond (.tmp 15)
    (.seq (.reg [] [⟨some 16, (.move (.tmp 10)), 29, none⟩,
      ⟨some 8, (.assign (.const (.bool false))), 4, none⟩,
      ⟨some 9, (.assign (.tmp 16)), 29, none⟩])
    .ret)
    .skip))
    (.seq (.reg [] [⟨some 17, (.move (.tmp 0)), 22, none⟩,
      ⟨some 18, (.move (.tmp 1)), 23, none⟩,
      ⟨some 19, (.load 46 (.tmp 6)), 46, none⟩,
      ⟨some 20, (.load 46 (.tmp 7)), 46, none⟩,
      ⟨some 21, (.call ⟨(.value (.func 121)), #[(.tmp 17), (.tmp 18), (.tmp 19), (.tmp 20)], #[22, 23, 46, 46]⟩), 29, none⟩,
      ⟨some 10, (.assign (.tmp 21)), 29, none⟩])
    (.seq (.seq (.reg [] [⟨some 22, (.move (.tmp 10)), 29, none⟩,
      ⟨some 23, (.binOp .neq 29 (.tmp 22) (.const (.int .i64 0)) 29), 4, none⟩])
    (.cond (.tmp 23)
    (.seq (.reg [] [⟨some 24, (.move (.tmp 10)), 29, none⟩,
      ⟨some 8, (.assign (.const (.bool false))), 4, none⟩,
      ⟨some 9, (.assign (.tmp 24)), 29, none⟩])
    .ret)
    .skip))
    (.seq (.reg [] [⟨some 25, (.move (.tmp 0)), 22, none⟩,
      ⟨some 26, (.move (.tmp 1)), 23, none⟩,
      ⟨some 27, (.load 46 (.tmp 6)), 46, none⟩,
      ⟨some 28, (.load 46 (.tmp 7)), 46, none⟩,
      ⟨some 29, (.call ⟨(.value (.func 122)), #[(.tmp 25), (.tmp 26), (.tmp 27), (.tmp 28)], #[22, 23, 46, 46]⟩), 4, none⟩,
      ⟨some 8, (.assign (.tmp 29)), 4, none⟩,
      ⟨some 9, (.assign (.const (.int .i64 0))), 29, none⟩])
    .ret))))))
theorem C41 {args : List AV} {r : AV} (hn : args.length ≤ 30) (h : vc Try.prog T [] A41 (Fin T [(.tmp 8), (.tmp 9)] r) ⟨envOf 0 args, []⟩) : CallP Try.prog 41 args r :=
  callP_of tok mixed Try.func41 (by kernel_rfl) (by kernel_rfl) (by kernel_rfl : Try.f41.ntmps = 30) (by kernel_rfl : Try.f41.body.bind (strip 30 (fun _ => [])) = some A41) hn h
theorem CO41 {args : List AV} {sz : Nat} {els : List AV} (hn : args.length ≤ 30) (h : vc Try.prog T [] A41 (FinO [(.tmp 8), (.tmp 9)] sz els) ⟨envOf 0 args, []⟩) : CallO Try.prog 41 args sz els :=
  callO_of tok mixed Try.func41 (by kernel_rfl) (by kernel_rfl) (by kernel_rfl : Try.f41.ntmps = 30) (by kernel_rfl : Try.f41.body.bind (strip 30 (fun _ => [])) = some A41) hn h
theorem CL41 {pre suf : List AV} {sz : Nat} {els els' : List AV} {r : LRet} (hn : (pre ++ .sl lid 0 0 els.length :: suf).length ≤ 30) (h : vc Try.prog T [] A41 (FinL T [(.tmp 8), (.tmp 9)] sz r els') ⟨envOf 0 (pre ++ .sl lid 0 0 els.length :: suf), [(lid, some ⟨sz, els, 0, false⟩)]⟩) : CallL Try.prog 41 pre sz els suf r els' :=
  callL_of tok mixed Try.func41 (by kernel_rfl) (by kernel_rfl) (by kernel_rfl : Try.f41.ntmps = 30) (by kernel_rfl : Try.f41.body.bind (strip 30 (fun _ => [])) = some A41) hn h


/-- vyakarana order.Beats -/
def A42 : ACode :=
  (.seq (.reg [] [⟨some 8, (.box 46 (.tmp 3)), 0, none⟩,
      ⟨some 9, (.box 46 (.tmp 4)), 0, none⟩,
      ⟨some 10, (.assign (.const (.int .i64 0))), 3, none⟩,
      ⟨some 11, (.assign (.const (.int .i64 0))), 29, none⟩])
    (.seq (.seq (.reg [] [⟨some 16, (.move (.tmp 0)), 22, none⟩,
      ⟨some 17, (.move (.tmp 1)), 23, none⟩,
      ⟨some 18, (.move (.tmp 2)), 23, none⟩,
      ⟨some 19, (.buildSlice 62 1 #[(0, (.tmp 18))]), 62, none⟩,
      ⟨some 20, (.call ⟨(.value (.func 107)), #[(.tmp 16), (.tmp 17), (.tmp 19)], #[22, 23, 62]⟩), 29, none⟩,
      ⟨some 12, (.assign (.tmp 20)), 29, none⟩])
    (.seq (.reg [] [⟨some 21, (.move (.tmp 12)), 29, none⟩,
      ⟨some 22, (.binOp .neq 29 (.tmp 21) (.const (.int .i64 0)) 29), 4, none⟩])
    (.cond (.tmp 22)
    (.seq (.reg [] [⟨some 23, (.move (.tmp 12)), 29, none⟩,
      ⟨some 10, (.assign (.const (.int .i64 0))), 3, none⟩,
      ⟨some 11, (.assign (.tmp 23)), 29, none⟩])
    .ret)
    .skip)))
    (.seq (.reg [] [⟨some 25, (.move (.tmp 0)), 22, none⟩,
      ⟨some 26, (.move (.tmp 1)), 23, none⟩,
      ⟨some 27, (.load 46 (.tmp 8)), 46, none⟩,
      ⟨some 28, (.load 46 (.tmp 9)), 46, none⟩,
      ⟨some 29, (.call ⟨(.value (.func 118)), #[(.tmp 25), (.tmp 26), (.tmp 27), (.tmp 28)], #[22, 23, 46, 46]⟩), 126, none⟩,
      ⟨some 24, (.move (.tmp 29)), 126, none⟩,
      ⟨some 30, (.extract (.tmp 24) 0), 120, none⟩,
      ⟨some 31, (.extract (.tmp 24) 1), 120, none⟩,
      ⟨some 32, (.extract (.tmp 24) 2), 29, none⟩,
      ⟨some 13, (.alloc 120), 0, none⟩,
      ⟨some 14, (.alloc 120), 0, none⟩,
      ⟨none, (.store 120 (.tmp 13) (.tmp 30)), 0, none⟩,
      ⟨none, (.store 120 (.tmp 14) (.tmp 31)), 0, none⟩,
      ⟨some 15, (.assign (.tmp 32)), 29, none⟩])
    (.seq (.seq (.reg [] [⟨some 33, (.move (.tmp 15)), 29, none⟩,
      ⟨some 34, (.binOp .neq 29 (.tmp 33) (.const (.int .i64 0)) 29), 4, none⟩])
    (.cond (.tmp 34)
    (.seq (.reg [] [⟨some 35, (.move (.tmp 15)), 29, none⟩,
      ⟨some 10, (.assign (.const (.int .i64 0))), 3, none⟩,
      ⟨some 11, (.assign (.tmp 35)), 29, none⟩])
    .ret)
    .skip))
    (.seq (.reg [] [⟨some 36, (.move (.tmp 1)), 23, none⟩,
      ⟨some 37, (.move (.tmp 2)), 23, none⟩,
      ⟨some 38, (.load 120 (.tmp 13)), 120, none⟩,
      ⟨some 39, (.load 120 (.tmp 14)), 120, none⟩,
      ⟨some 40, (.call ⟨(.value (.func 123)), #[(.tmp 36), (.tmp 37), (.tmp 38), (.tmp 39)], #[23, 23, 120, 120]⟩), 3, none⟩,
      ⟨some 10, (.assign (.tmp 40)), 3, none⟩,
      ⟨some 11, (.assign (.const (.int .i64 0))), 29, none⟩])
    .ret)))))
theorem C42 {args : List AV} {r : AV} (hn : args.length ≤ 41) (h : vc Try.prog T [] A42 (Fin T [(.tmp 10), (.tmp 11)] r) ⟨envOf 0 args, []⟩) : CallP Try.prog 42 args r :=
  callP_of tok mixed Try.func42 (by kernel_rfl) (by kernel_rfl) (by kernel_rfl : Try.f42.ntmps = 41) (by kernel_rfl : Try.f42.body.bind (strip 41 (fun _ => [])) = some A42) hn h
theorem CO42 {args : List AV} {sz : Nat} {els : List AV} (hn : args.length ≤ 41) (h : vc Try.prog T [] A42 (FinO [(.tmp 10), (.tmp 11)] sz els) ⟨envOf 0 args, []⟩) : CallO Try.prog 42 args sz els :=
  callO_of tok mixed Try.func42 (by kernel_rfl) (by kernel_rfl) (by kernel_rfl : Try.f42.ntmps = 41) (by kernel_rfl : Try.f42.body.bind (strip 41 (fun _ => [])) = some A42) hn h
theorem CL42 {pre suf : List AV} {sz : Nat} {els els' : List AV} {r : LRet} (hn : (pre ++ .sl lid 0 0 els.length :: suf).length ≤ 41) (h : vc Try.prog T [] A42 (FinL T [(.tmp 10), (.tmp 11)] sz r els') ⟨envOf 0 (pre ++ .sl lid 0 0 els.length :: suf), [(lid, some ⟨sz, els, 0, false⟩)]⟩) : CallL Try.prog 42 pre sz els suf r els' :=
  callL_of tok mixed Try.func42 (by kernel_rfl) (by kernel_rfl) (by kernel_rfl : Try.f42.ntmps = 41) (by kernel_rfl : Try.f42.body.bind (strip 41 (fun _ => [])) = some A42) hn h


/-- vyakarana vyakaranaref04.Beats -/
def A43 : ACode :=
  (.seq (.reg [] [⟨some 8, (.box 46 (.tmp 3)), 0, none⟩,
      ⟨some 9, (.box 46 (.tmp 4)), 0, none⟩,
      ⟨some 10, (.assign (.const (.int .i64 0))), 3, none⟩,
      ⟨some 11, (.assign (.const (.int .i64 0))), 29, none⟩])
    (.seq (.reg [] [⟨some 13, (.move (.tmp 0)), 22, none⟩,
      ⟨some 14, (.move (.tmp 1)), 23, none⟩,
      ⟨some 15, (.move (.tmp 2)), 23, none⟩,
      ⟨some 16, (.call ⟨(.value (.func 109)), #[(.tmp 13), (.tmp 14), (.tmp 15)], #[22, 23, 23]⟩), 29, none⟩,
      ⟨some 12, (.assign (.tmp 16)), 29, none⟩])
    (.seq (.seq (.reg [] [⟨some 17, (.move (.tmp 12)), 29, none⟩,
      ⟨some 18, (.binOp .neq 29 (.tmp 17) (.const (.int .i64 0)) 29), 4, none⟩])
    (.cond (.tmp 18)
    (.seq (.reg [] [⟨some 19, (.move (.tmp 12)), 29, none⟩,
      ⟨some 10, (.assign (.const (.int .i64 0))), 3, none⟩,
      ⟨some 11, (.assign (.tmp 19)), 29, none⟩])
    .ret)
    .skip))
    (.seq (.reg [] [⟨some 20, (.move (.tmp 0)), 22, none⟩,
      ⟨some 21, (.move (.tmp 1)), 23, none⟩,
      ⟨some 22, (.load 46 (.tmp 8)), 46, none⟩,
      ⟨some 23, (.load 46 (.tmp 9)), 46, none⟩,
      ⟨some 24, (.call ⟨(.value (.func 121)), #[(.tmp 20), (.tmp 21), (.tmp 22), (.tmp 23)], #[22, 23, 46, 46]⟩), 29, none⟩,
      ⟨some 12, (.assign (.tmp 24)), 29, none⟩])
    (.seq (.seq (.reg [] [⟨some 25, (.move (.tmp 12)), 29, none⟩,
      ⟨some 26, (.binOp .neq 29 (.tmp 25) (.const (.int .i64 0)) 29), 4, none⟩])
    (.cond (.tmp 26)
    (.seq (.reg [] [⟨some 27, (.move (.tmp 12)), 29, none⟩,
      ⟨some 10, (.assign (.const (.int .i64 0))), 3, none⟩,
      ⟨some 11, (.assign (.tmp 27)), 29, none⟩])
    .ret)
    .skip))
    (.seq (.reg [] [⟨some 28, (.move (.tmp 0)), 22, none⟩,
      ⟨some 29, (.move (.tmp 1)), 23, none⟩,
      ⟨some 30, (.move (.tmp 2)), 23, none⟩,
      ⟨some 31, (.load 46 (.tmp 8)), 46, none⟩,
      ⟨some 32, (.load 46 (.tmp 9)), 46, none⟩,
      ⟨some 33, (.call ⟨(.value (.func 124)), #[(.tmp 28), (.tmp 29), (.tmp 30), (.tmp 31), (.tmp 32)], #[22, 23, 23, 46, 46]⟩), 3, none⟩,
      ⟨some 10, (.assign (.tmp 33)), 3, none⟩,
      ⟨some 11, (.assign (.const (.int .i64 0))), 29, none⟩])
    .ret))))))
theorem C43 {args : List AV} {r : AV} (hn : args.length ≤ 34) (h : vc Try.prog T [] A43 (Fin T [(.tmp 10), (.tmp 11)] r) ⟨envOf 0 args, []⟩) : CallP Try.prog 43 args r :=
  callP_of tok mixed Try.func43 (by kernel_rfl) (by kernel_rfl) (by kernel_rfl : Try.f43.ntmps = 34) (by kernel_rfl : Try.f43.body.bind (strip 34 (fun _ => [])) = some A43) hn h
theorem CO43 {args : List AV} {sz : Nat} {els : List AV} (hn : args.length ≤ 34) (h : vc Try.prog T [] A43 (FinO [(.tmp 10), (.tmp 11)] sz els) ⟨envOf 0 args, []⟩) : CallO Try.prog 43 args sz els :=
  callO_of tok mixed Try.func43 (by kernel_rfl) (by kernel_rfl) (by kernel_rfl : Try.f43.ntmps = 34) (by kernel_rfl : Try.f43.body.bind (strip 34 (fun _ => [])) = some A43) hn h
theorem CL43 {pre suf : List AV} {sz : Nat} {els els' : List AV} {r : LRet} (hn : (pre ++ .sl lid 0 0 els.length :: suf).length ≤ 34) (h : vc Try.prog T [] A43 (FinL T [(.tmp 10), (.tmp 11)] sz r els') ⟨envOf 0 (pre ++ .sl lid 0 0 els.length :: suf), [(lid, some ⟨sz, els, 0, false⟩)]⟩) : CallL Try.prog 43 pre sz els suf r els' :=
  callL_of tok mixed Try.func43 (by kernel_rfl) (by kernel_rfl) (by kernel_rfl : Try.f43.ntmps = 34) (by kernel_rfl : Try.f43.body.bind (strip 34 (fun _ => [])) = some A43) hn h


/-- vyakarana order.Decide -/
def A44 : ACode :=
  (.seq (.reg [] [⟨some 8, (.box 46 (.tmp 3)), 0, none⟩,
      ⟨some 9, (.box 46 (.tmp 4)), 0, none⟩,
      ⟨some 10, (.assign (.const (.int .i64 0))), 3, none⟩,
      ⟨some 11, (.assign (.const (.int .i64 0))), 29, none⟩])
    (.seq (.seq (.reg [] [⟨some 16, (.move (.tmp 0)), 22, none⟩,
      ⟨some 17, (.move (.tmp 1)), 23, none⟩,
      ⟨some 18, (.call ⟨(.value (.func 107)), #[(.tmp 16), (.tmp 17), (.const (.slice none 0 0))], #[22, 23, 62]⟩), 29, none⟩,
      ⟨some 12, (.assign (.tmp 18)), 29, none⟩])
    (.seq (.reg [] [⟨some 19, (.move (.tmp 12)), 29, none⟩,
      ⟨some 20, (.binOp .neq 29 (.tmp 19) (.const (.int .i64 0)) 29), 4, none⟩])
    (.cond (.tmp 20)
    (.seq (.reg [] [⟨some 21, (.move (.tmp 12)), 29, none⟩,
      ⟨some 10, (.assign (.const (.int .i64 0))), 3, none⟩,
      ⟨some 11, (.assign (.tmp 21)), 29, none⟩])
    .ret)
    .skip)))
    (.seq (.reg [] [⟨some 23, (.move (.tmp 0)), 22, none⟩,
      ⟨some 24, (.move (.tmp 1)), 23, none⟩,
      ⟨some 25, (.load 46 (.tmp 8)), 46, none⟩,
      ⟨some 26, (.load 46 (.tmp 9)), 46, none⟩,
      ⟨some 27, (.call ⟨(.value (.func 118)), #[(.tmp 23), (.tmp 24), (.tmp 25), (.tmp 26)], #[22, 23, 46, 46]⟩), 126, none⟩,
      ⟨some 22, (.move (.tmp 27)), 126, none⟩,
      ⟨some 28, (.extract (.tmp 22) 0), 120, none⟩,
      ⟨some 29, (.extract (.tmp 22) 1), 120, none⟩,
      ⟨some 30, (.extract (.tmp 22) 2), 29, none⟩,
      ⟨some 13, (.alloc 120), 0, none⟩,
      ⟨some 14, (.alloc 120), 0, none⟩,
      ⟨none, (.store 120 (.tmp 13) (.tmp 28)), 0, none⟩,
      ⟨none, (.store 120 (.tmp 14) (.tmp 29)), 0, none⟩,
      ⟨some 15, (.assign (.tmp 30)), 29, none⟩])
    (.seq (.seq (.reg [] [⟨some 31, (.move (.tmp 15)), 29, none⟩,
      ⟨some 32, (.binOp .neq 29 (.tmp 31) (.const (.int .i64 0)) 29), 4, none⟩])
    (.cond (.tmp 32)
    (.seq (.reg [] [⟨some 33, (.move (.tmp 15)), 29, none⟩,
      ⟨some 10, (.assign (.const (.int .i64 0))), 3, none⟩,
      ⟨some 11, (.assign (.tmp 33)), 29, none⟩])
    .ret)
    .skip))
    (.seq (.seq (.reg [] [⟨some 34, (.move (.tmp 2)), 3, none⟩,
      ⟨some 35, (.binOp .lss 3 (.tmp 34) (.const (.int .i64 1)) 3), 4, none⟩,
      ⟨some 36, (.move (.tmp 35)), 4, none⟩,
      ⟨some 37, (.move (.tmp 2)), 3, some (36, false)⟩,
      ⟨some 38, (.binOp .gtr 3 (.tmp 37) (.const (.int .i64 4)) 3), 4, some (36, false)⟩,
      ⟨some 39, (.pick (.tmp 36) (.const (.bool true)) (.tmp 38)), 4, none⟩])
    (.cond (.tmp 39)
    (.seq (.reg [] [⟨some 10, (.assign (.const (.int .i64 0))), 3, none⟩,
      ⟨some 11, (.assign (.const (.int .i64 1))), 29, none⟩])
    .ret)
    .skip))
    (.seq (.reg [] [⟨some 40, (.move (.tmp 1)), 23, none⟩,
      ⟨some 41, (.move (.tmp 2)), 3, none⟩,
      ⟨some 42, (.load 120 (.tmp 13)), 120, none⟩,
      ⟨some 43, (.load 120 (.tmp 14)), 120, none⟩,
      ⟨some 44, (.call ⟨(.value (.func 125)), #[(.tmp 40), (.tmp 41), (.tmp 42), (.tmp 43)], #[23, 3, 120, 120]⟩), 3, none⟩,
      ⟨some 10, (.assign (.tmp 44)), 3, none⟩,
      ⟨some 11, (.assign (.const (.int .i64 0))), 29, none⟩])
    .ret))))))
theorem C44 {args : List AV} {r : AV} (hn : args.length ≤ 45) (h : vc Try.prog T [] A44 (Fin T [(.tmp 10), (.tmp 11)] r) ⟨envOf 0 args, []⟩) : CallP Try.prog 44 args r :=
  callP_of tok mixed Try.func44 (by kernel_rfl) (by kernel_rfl) (by kernel_rfl : Try.f44.ntmps = 45) (by kernel_rfl : Try.f44.body.bind (strip 45 (fun _ => [])) = some A44) hn h
theorem CO44 {args : List AV} {sz : Nat} {els : List AV} (hn : args.length ≤ 45) (h : vc Try.prog T [] A44 (FinO [(.tmp 10), (.tmp 11)] sz els) ⟨envOf 0 args, []⟩) : CallO Try.prog 44 args sz els :=
  callO_of tok mixed Try.func44 (by kernel_rfl) (by kernel_rfl) (by kernel_rfl : Try.f44.ntmps = 45) (by kernel_rfl : Try.f44.body.bind (strip 45 (fun _ => [])) = some A44) hn h
theorem CL44 {pre suf : List AV} {sz : Nat} {els els' : List AV} {r : LRet} (hn : (pre ++ .sl lid 0 0 els.length :: suf).length ≤ 45) (h : vc Try.prog T [] A44 (FinL T [(.tmp 10), (.tmp 11)] sz r els') ⟨envOf 0 (pre ++ .sl lid 0 0 els.length :: suf), [(lid, some ⟨sz, els, 0, false⟩)]⟩) : CallL Try.prog 44 pre sz els suf r els' :=
  callL_of tok mixed Try.func44 (by kernel_rfl) (by kernel_rfl) (by kernel_rfl : Try.f44.ntmps = 45) (by kernel_rfl : Try.f44.body.bind (strip 45 (fun _ => [])) = some A44) hn h


/-- vyakarana vyakaranaref04.Decide -/
def A45 : ACode :=
  (.seq (.reg [] [⟨some 8, (.box 46 (.tmp 3)), 0, none⟩,
      ⟨some 9, (.box 46 (.tmp 4)), 0, none⟩,
      ⟨some 10, (.assign (.const (.int .i64 0))), 3, none⟩,
      ⟨some 11, (.assign (.const (.int .i64 0))), 29, none⟩])
    (.seq (.reg [] [⟨some 13, (.move (.tmp 0)), 22, none⟩,
      ⟨some 14, (.move (.tmp 1)), 23, none⟩,
      ⟨some 15, (.call ⟨(.value (.func 120)), #[(.tmp 13), (.tmp 14)], #[22, 23]⟩), 29, none⟩,
      ⟨some 12, (.assign (.tmp 15)), 29, none⟩])
    (.seq (.seq (.reg [] [⟨some 16, (.move (.tmp 12)), 29, none⟩,
      ⟨some 17, (.binOp .neq 29 (.tmp 16) (.const (.int .i64 0)) 29), 4, none⟩])
    (.cond (.tmp 17)
    (.seq (.reg [] [⟨some 18, (.move (.tmp 12)), 29, none⟩,
      ⟨some 10, (.assign (.const (.int .i64 0))), 3, none⟩,
      ⟨some 11, (.assign (.tmp 18)), 29, none⟩])
    .ret)
    .skip))
    (.seq (.reg [] [⟨some 19, (.move (.tmp 0)), 22, none⟩,
      ⟨some 20, (.move (.tmp 1)), 23, none⟩,
      ⟨some 21, (.load 46 (.tmp 8)), 46, none⟩,
      ⟨some 22, (.load 46 (.tmp 9)), 46, none⟩,
      ⟨some 23, (.call ⟨(.value (.func 121)), #[(.tmp 19), (.tmp 20), (.tmp 21), (.tmp 22)], #[22, 23, 46, 46]⟩), 29, none⟩,
      ⟨some 12, (.assign (.tmp 23)), 29, none⟩])
    (.seq (.seq (.reg [] [⟨some 24, (.move (.tmp 12)), 29, none⟩,
      ⟨some 25, (.binOp .neq 29 (.tmp 24) (.const (.int .i64 0)) 29), 4, none⟩])
    (.cond (.tmp 25)
    (.seq (.reg [] [⟨some 26, (.move (.tmp 12)), 29, none⟩,
      ⟨some 10, (.assign (.const (.int .i64 0))), 3, none⟩,
      ⟨some 11, (.assign (.tmp 26)), 29, none⟩])
    .ret)
    .skip))
    (.seq (.seq (.reg [] [⟨some 27, (.move (.tmp 2)), 3, none⟩,
      ⟨some 28, (.binOp .lss 3 (.tmp 27) (.const (.int .i64 1)) 3), 4, none⟩,
      ⟨some 29, (.move (.tmp 28)), 4, none⟩,
      ⟨some 30, (.move (.tmp 2)), 3, some (29, false)⟩,
      ⟨some 31, (.binOp .gtr 3 (.tmp 30) (.const (.int .i64 4)) 3), 4, some (29, false)⟩,
      ⟨some 32, (.pick (.tmp 29) (.const (.bool true)) (.tmp 31)), 4, none⟩])
    (.cond (.tmp 32)
    (.seq (.reg [] [⟨some 10, (.assign (.const (.int .i64 0))), 3, none⟩,
      ⟨some 11, (.assign (.const (.int .i64 1))), 29, none⟩])
    .ret)
    .skip))
    (.seq (.reg [] [⟨some 33, (.move (.tmp 0)), 22, none⟩,
      ⟨some 34, (.move (.tmp 1)), 23, none⟩,
      ⟨some 35, (.move (.tmp 2)), 3, none⟩,
      ⟨some 36, (.load 46 (.tmp 8)), 46, none⟩,
      ⟨some 37, (.load 46 (.tmp 9)), 46, none⟩,
      ⟨some 38, (.call ⟨(.value (.func 126)), #[(.tmp 33), (.tmp 34), (.tmp 35), (.tmp 36), (.tmp 37)], #[22, 23, 3, 46, 46]⟩), 3, none⟩,
      ⟨some 10, (.assign (.tmp 38)), 3, none⟩,
      ⟨some 11, (.assign (.const (.int .i64 0))), 29, none⟩])
    .ret)))))))
theorem C45 {args : List AV} {r : AV} (hn : args.length ≤ 39) (h : vc Try.prog T [] A45 (Fin T [(.tmp 10), (.tmp 11)] r) ⟨envOf 0 args, []⟩) : CallP Try.prog 45 args r :=
  callP_of tok mixed Try.func45 (by kernel_rfl) (by kernel_rfl) (by kernel_rfl : Try.f45.ntmps = 39) (by kernel_rfl : Try.f45.body.bind (strip 39 (fun _ => [])) = some A45) hn h
theorem CO45 {args : List AV} {sz : Nat} {els : List AV} (hn : args.length ≤ 39) (h : vc Try.prog T [] A45 (FinO [(.tmp 10), (.tmp 11)] sz els) ⟨envOf 0 args, []⟩) : CallO Try.prog 45 args sz els :=
  callO_of tok mixed Try.func45 (by kernel_rfl) (by kernel_rfl) (by kernel_rfl : Try.f45.ntmps = 39) (by kernel_rfl : Try.f45.body.bind (strip 39 (fun _ => [])) = some A45) hn h
theorem CL45 {pre suf : List AV} {sz : Nat} {els els' : List AV} {r : LRet} (hn : (pre ++ .sl lid 0 0 els.length :: suf).length ≤ 39) (h : vc Try.prog T [] A45 (FinL T [(.tmp 10), (.tmp 11)] sz r els') ⟨envOf 0 (pre ++ .sl lid 0 0 els.length :: suf), [(lid, some ⟨sz, els, 0, false⟩)]⟩) : CallL Try.prog 45 pre sz els suf r els' :=
  callL_of tok mixed Try.func45 (by kernel_rfl) (by kernel_rfl) (by kernel_rfl : Try.f45.ntmps = 39) (by kernel_rfl : Try.f45.body.bind (strip 39 (fun _ => [])) = some A45) hn h


/-- vyakarana order.Winner -/
def A34 : ACode :=
  (.seq (.reg [] [⟨some 6, (.alloc 37), 0, none⟩,
      ⟨some 7, (.assign (.const (.bool false))), 4, none⟩,
      ⟨some 8, (.assign (.const (.int .i64 0))), 29, none⟩])
    (.seq (.seq (.reg [] [⟨some 12, (.move (.tmp 0)), 22, none⟩,
      ⟨some 13, (.move (.tmp 1)), 23, none⟩,
      ⟨some 14, (.move (.tmp 2)), 23, none⟩,
      ⟨some 15, (.buildSlice 62 1 #[(0, (.tmp 14))]), 62, none⟩,
      ⟨some 16, (.call ⟨(.value (.func 107)), #[(.tmp 12), (.tmp 13), (.tmp 15)], #[22, 23, 62]⟩), 29, none⟩,
      ⟨some 9, (.assign (.tmp 16)), 29, none⟩])
    (.seq (.reg [] [⟨some 17, (.move (.tmp 9)), 29, none⟩,
      ⟨some 18, (.binOp .neq 29 (.tmp 17) (.const (.int .i64 0)) 29), 4, none⟩])
    (.cond (.tmp 18)
    (.seq (.reg [] [⟨some 19, (.build 37 #[]), 37, none⟩,
      ⟨some 20, (.move (.tmp 9)), 29, none⟩,
      ⟨none, (.store 37 (.tmp 6) (.tmp 19)), 0, none⟩,
      ⟨some 7, (.assign (.const (.bool false))), 4, none⟩,
      ⟨some 8, (.assign (.tmp 20)), 29, none⟩])
    .ret)
    .skip)))
    (.seq (.reg [] [⟨some 22, (.move (.tmp 0)), 22, none⟩,
      ⟨some 23, (.move (.tmp 1)), 23, none⟩,
      ⟨some 24, (.move (.tmp 2)), 23, none⟩,
      ⟨some 25, (.call ⟨(.value (.func 111)), #[(.tmp 22), (.tmp 23), (.tmp 24)], #[22, 23, 23]⟩), 115, none⟩,
      ⟨some 21, (.move (.tmp 25)), 115, none⟩,
      ⟨some 26, (.extract (.tmp 21) 0), 37, none⟩,
      ⟨some 27, (.extract (.tmp 21) 1), 4, none⟩,
      ⟨some 10, (.alloc 37), 0, none⟩,
      ⟨none, (.store 37 (.tmp 10) (.tmp 26)), 0, none⟩,
      ⟨some 11, (.assign (.tmp 27)), 4, none⟩])
    (.seq (.reg [] [⟨some 28, (.load 37 (.tmp 10)), 37, none⟩,
      ⟨some 29, (.move (.tmp 11)), 4, none⟩,
      ⟨none, (.store 37 (.tmp 6) (.tmp 28)), 0, none⟩,
      ⟨some 7, (.assign (.tmp 29)), 4, none⟩,
      ⟨some 8, (.assign (.const (.int .i64 0))), 29, none⟩])
    .ret))))
theorem C34 {args : List AV} {r : AV} (hn : args.length ≤ 30) (h : vc Try.prog T [] A34 (Fin T [(.cell 6 37), (.tmp 7), (.tmp 8)] r) ⟨envOf 0 args, []⟩) : CallP Try.prog 34 args r :=
  callP_of tok mixed Try.func34 (by kernel_rfl) (by kernel_rfl) (by kernel_rfl : Try.f34.ntmps = 30) (by kernel_rfl : Try.f34.body.bind (strip 30 (fun _ => [])) = some A34) hn h
theorem CO34 {args : List AV} {sz : Nat} {els : List AV} (hn : args.length ≤ 30) (h : vc Try.prog T [] A34 (FinO [(.cell 6 37), (.tmp 7), (.tmp 8)] sz els) ⟨envOf 0 args, []⟩) : CallO Try.prog 34 args sz els :=
  callO_of tok mixed Try.func34 (by kernel_rfl) (by kernel_rfl) (by kernel_rfl : Try.f34.ntmps = 30) (by kernel_rfl : Try.f34.body.bind (strip 30 (fun _ => [])) = some A34) hn h
theorem CL34 {pre suf : List AV} {sz : Nat} {els els' : List AV} {r : LRet} (hn : (pre ++ .sl lid 0 0 els.length :: suf).length ≤ 30) (h : vc Try.prog T [] A34 (FinL T [(.cell 6 37), (.tmp 7), (.tmp 8)] sz r els') ⟨envOf 0 (pre ++ .sl lid 0 0 els.length :: suf), [(lid, some ⟨sz, els, 0, false⟩)]⟩) : CallL Try.prog 34 pre sz els suf r els' :=
  callL_of tok mixed Try.func34 (by kernel_rfl) (by kernel_rfl) (by kernel_rfl : Try.f34.ntmps = 30) (by kernel_rfl : Try.f34.body.bind (strip 30 (fun _ => [])) = some A34) hn h


/-- vyakarana order.two -/
def A118 : ACode :=
  (.seq (.reg [] [⟨some 6, (.box 46 (.tmp 2)), 0, none⟩,
      ⟨some 7, (.box 46 (.tmp 3)), 0, none⟩,
      ⟨some 8, (.alloc 120), 0, none⟩,
      ⟨some 9, (.alloc 120), 0, none⟩,
      ⟨some 10, (.assign (.const (.int .i64 0))), 29, none⟩])
    (.seq (.reg [] [⟨some 14, (.move (.tmp 0)), 22, none⟩,
      ⟨some 15, (.move (.tmp 1)), 23, none⟩,
      ⟨some 16, (.call ⟨(.value (.func 113)), #[(.tmp 14), (.tmp 15)], #[22, 23]⟩), 117, none⟩,
      ⟨some 11, (.assign (.tmp 16)), 117, none⟩])
    (.seq (.seq (.reg [] [⟨some 17, (.load 46 (.tmp 6)), 46, none⟩,
      ⟨some 18, (.load 46 (.tmp 7)), 46, none⟩,
      ⟨some 19, (.buildSlice 88 2 #[(0, (.tmp 17)), (1, (.tmp 18))]), 88, none⟩,
      ⟨some 20, (.call ⟨(.builtin .len), #[(.tmp 19)], #[88]⟩), 3, none⟩,
      ⟨some 21, (.move (.const (.int .i64 0))), 3, none⟩])
    (.block 0 (.loop (.seq (.reg [] [⟨some 22, (.binOp .lss 3 (.tmp 21) (.tmp 20) 3), 0, none⟩])
    (.seq (.cond (.tmp 22)
    .skip
    (.exit 0))
    (.seq (.block 1 (.seq (.reg [] [⟨some 23, (.indexAddr 88 (.tmp 19) (.tmp 21)), 0, none⟩,
      ⟨some 24, (.load 46 (.tmp 23)), 46, none⟩,
      ⟨some 13, (.alloc 46), 0, none⟩,
      ⟨none, (.store 46 (.tmp 13) (.tmp 24)), 0, none⟩])
    (.seq (.reg [] [⟨some 25, (.move (.tmp 11)), 117, none⟩,
      ⟨some 26, (.makeFunc (.func 187) #[] #[(.tmp 13)]), 191, none⟩,
      ⟨some 27, (.call ⟨(.value (.func 186)), #[(.tmp 25), (.tmp 26)], #[117, 191]⟩), 4, none⟩,
      ⟨some 28, (.unOp .not 4 (.tmp 27)), 4, none⟩])
    (.cond (.tmp 28)
    (.seq (.reg [] [⟨some 29, (.build 120 #[]), 120, none⟩,
      ⟨some 30, (.build 120 #[]), 120, none⟩,
      ⟨none, (.store 120 (.tmp 8) (.tmp 29)), 0, none⟩,
      ⟨none, (.store 120 (.tmp 9) (.tmp 30)), 0, none⟩,
      ⟨some 10, (.assign (.const (.int .i64 4))), 29, none⟩])
    .ret)
    .skip))))
    (.reg [] [⟨some 31, (.binOp .add 3 (.tmp 21) (.const (.int .i64 1)) 3), 3, none⟩,
      ⟨some 21, (.move (.tmp 31)), 3, none⟩])))))))
    (.seq (.seq (.reg [] [⟨some 32, (.load 46 (.tmp 6)), 46, none⟩,
      ⟨some 33, (.load 46 (.tmp 7)), 46, none⟩,
      ⟨some 34, (.binOp .eql 46 (.tmp 32) (.tmp 33) 46), 4, none⟩])
    (.cond (.tmp 34)
    (.seq (.reg [] [⟨some 35, (.build 120 #[]), 120, none⟩,
      ⟨some 36, (.build 120 #[]), 120, none⟩,
      ⟨none, (.store 120 (.tmp 8) (.tmp 35)), 0, none⟩,
      ⟨none, (.store 120 (.tmp 9) (.tmp 36)), 0, none⟩,
      ⟨some 10, (.assign (.const (.int .i64 5))), 29, none⟩])
    .ret)
    .skip))
    (.seq (.draw [] [⟨some 37, (.load 46 (.tmp 6)), 46, none⟩,
      ⟨some 38, (.move (.tmp 0)), 22, none⟩,
      ⟨some 39, (.fieldAddr 46 (.tmp 6) 0), 0, none⟩,
      ⟨some 40, (.load 3 (.tmp 39)), 3, none⟩,
      ⟨some 41, (.indexAddr 22 (.tmp 38) (.tmp 40)), 0, none⟩,
      ⟨some 42, (.load 72 (.tmp 41)), 72, none⟩,
      ⟨some 43, (.build 120 #[(0, (.tmp 37)), (1, (.tmp 42))]), 120, none⟩,
      ⟨some 44, (.load 46 (.tmp 7)), 46, none⟩,
      ⟨some 45, (.move (.tmp 0)), 22, none⟩,
      ⟨some 46, (.fieldAddr 46 (.tmp 7) 0), 0, none⟩,
      ⟨some 47, (.load 3 (.tmp 46)), 3, none⟩,
      ⟨some 48, (.indexAddr 22 (.tmp 45) (.tmp 47)), 0, none⟩,
      ⟨some 49, (.load 72 (.tmp 48)), 72, none⟩,
      ⟨some 50, (.build 120 #[(0, (.tmp 44)), (1, (.tmp 49))]), 120, none⟩,
      ⟨none, (.store 120 (.tmp 8) (.tmp 43)), 0, none⟩,
      ⟨none, (.store 120 (.tmp 9) (.tmp 50)), 0, none⟩,
      ⟨some 10, (.assign (.const (.int .i64 0))), 29, none⟩] [(0, 1), (0, 2), (1, 2), (0, 3), (1, 3), (0, 4), (0, 5), (0, 7), (1, 7), (2, 7), (3, 7), (4, 7), (5, 7), (6, 7), (0, 8), (1, 8), (2, 8), (3, 8), (4, 8), (5, 8), (6, 8), (7, 8), (0, 9), (1, 9), (2, 9), (3, 9), (4, 9), (5, 9), (6, 9), (7, 9), (8, 9), (0, 10), (1, 10), (2, 10), (3, 10), (4, 10), (5, 10), (6, 10), (7, 10), (8, 10), (0, 11), (1, 11), (2, 11), (3, 11), (4, 11), (5, 11), (6, 11), (7, 11), (0, 12), (1, 12), (2, 12), (3, 12), (4, 12), (5, 12), (6, 12), (7, 12), (0, 13), (1, 13), (2, 13), (3, 13), (4, 13), (5, 13), (6, 13), (7, 14), (8, 14), (9, 14), (10, 14), (11, 14), (12, 14), (13, 14)])
    .ret)))))
theorem C118 {args : List AV} {r : AV} (hn : args.length ≤ 51) (h : vc Try.prog T [] A118 (Fin T [(.cell 8 120), (.cell 9 120), (.tmp 10)] r) ⟨envOf 0 args, []⟩) : CallP Try.prog 118 args r :=
  callP_of tok mixed Try.func118 (by kernel_rfl) (by kernel_rfl) (by kernel_rfl : Try.f118.ntmps = 51) (by kernel_rfl : Try.f118.body.bind (strip 51 (fun _ => [])) = some A118) hn h
theorem CO118 {args : List AV} {sz : Nat} {els : List AV} (hn : args.length ≤ 51) (h : vc Try.prog T [] A118 (FinO [(.cell 8 120), (.cell 9 120), (.tmp 10)] sz els) ⟨envOf 0 args, []⟩) : CallO Try.prog 118 args sz els :=
  callO_of tok mixed Try.func118 (by kernel_rfl) (by kernel_rfl) (by kernel_rfl : Try.f118.ntmps = 51) (by kernel_rfl : Try.f118.body.bind (strip 51 (fun _ => [])) = some A118) hn h
theorem CL118 {pre suf : List AV} {sz : Nat} {els els' : List AV} {r : LRet} (hn : (pre ++ .sl lid 0 0 els.length :: suf).length ≤ 51) (h : vc Try.prog T [] A118 (FinL T [(.cell 8 120), (.cell 9 120), (.tmp 10)] sz r els') ⟨envOf 0 (pre ++ .sl lid 0 0 els.length :: suf), [(lid, some ⟨sz, els, 0, false⟩)]⟩) : CallL Try.prog 118 pre sz els suf r els' :=
  callL_of tok mixed Try.func118 (by kernel_rfl) (by kernel_rfl) (by kernel_rfl : Try.f118.ntmps = 51) (by kernel_rfl : Try.f118.body.bind (strip 51 (fun _ => [])) = some A118) hn h


/-- vyakarana vyakaranaref04.two -/
def A121 : ACode :=
  (.seq (.reg [] [⟨some 6, (.box 46 (.tmp 2)), 0, none⟩,
      ⟨some 7, (.box 46 (.tmp 3)), 0, none⟩,
      ⟨some 8, (.assign (.const (.int .i64 0))), 29, none⟩])
    (.seq (.reg [] [⟨some 12, (.move (.tmp 0)), 22, none⟩,
      ⟨some 13, (.move (.tmp 1)), 23, none⟩,
      ⟨some 14, (.call ⟨(.value (.func 115)), #[(.tmp 12), (.tmp 13)], #[22, 23]⟩), 88, none⟩,
      ⟨some 9, (.assign (.tmp 14)), 88, none⟩])
    (.seq (.reg [] [⟨some 10, (.assign (.const (.int .i64 0))), 3, none⟩])
    (.seq (.seq (.reg [] [⟨some 11, (.assign (.const (.int .i64 0))), 3, none⟩])
    (.block 0 (.loop (.seq (.seq (.reg [] [⟨some 15, (.move (.tmp 11)), 3, none⟩,
      ⟨some 16, (.move (.tmp 9)), 88, none⟩,
      ⟨some 17, (.call ⟨(.builtin .len), #[(.tmp 16)], #[88]⟩), 3, none⟩,
      ⟨some 18, (.binOp .lss 3 (.tmp 15) (.tmp 17) 3), 4, none⟩])
    (.cond (.tmp 18)
    .skip
    (.exit 0)))
    (.seq (.block 1 (.seq (.seq (.draw [] [⟨some 21, (.move (.tmp 9)), 88, none⟩,
      ⟨some 22, (.move (.tmp 11)), 3, none⟩,
      ⟨some 23, (.indexAddr 88 (.tmp 21) (.tmp 22)), 0, none⟩,
      ⟨some 24, (.load 46 (.tmp 23)), 46, none⟩,
      ⟨some 25, (.load 46 (.tmp 6)), 46, none⟩,
      ⟨some 26, (.binOp .eql 46 (.tmp 24) (.tmp 25) 46), 4, none⟩] [(0, 1), (0, 4), (1, 4), (2, 4), (3, 4)])
    (.cond (.tmp 26)
    (.reg [] [⟨some 27, (.move (.tmp 10)), 3, none⟩,
      ⟨some 28, (.binOp .or 3 (.tmp 27) (.const (.int .i64 1)) 3), 3, none⟩,
      ⟨some 10, (.assign (.tmp 28)), 3, none⟩])
    .skip))
    (.seq (.draw [] [⟨some 29, (.move (.tmp 9)), 88, none⟩,
      ⟨some 30, (.move (.tmp 11)), 3, none⟩,
      ⟨some 31, (.indexAddr 88 (.tmp 29) (.tmp 30)), 0, none⟩,
      ⟨some 32, (.load 46 (.tmp 31)), 46, none⟩,
      ⟨some 33, (.load 46 (.tmp 7)), 46, none⟩,
      ⟨some 34, (.binOp .eql 46 (.tmp 32) (.tmp 33) 46), 4, none⟩] [(0, 1), (0, 4), (1, 4), (2, 4), (3, 4)])
    (.cond (.tmp 34)
    (.reg [] [⟨some 35, (.move (.tmp 10)), 3, none⟩,
      ⟨some 36, (.binOp .or 3 (.tmp 35) (.const (.int .i64 2)) 3), 3, none⟩,
      ⟨some 10, (.assign (.tmp 36)), 3, none⟩])
    .skip))))
    (.reg [] [⟨some 19, (.move (.tmp 11)), 3, none⟩,
      ⟨some 20, (.binOp .add 3 (.tmp 19) (.const (.int .i64 1)) 3), 3, none⟩,
      ⟨some 11, (.assign (.tmp 20)), 3, none⟩]))))))
    (.seq (.seq (.reg [] [⟨some 37, (.move (.tmp 10)), 3, none⟩,
      ⟨some 38, (.binOp .neq 3 (.tmp 37) (.const (.int .i64 3)) 3), 4, none⟩])
    (.cond (.tmp 38)
    (.seq (.reg [] [⟨some 8, (.assign (.const (.int .i64 4))), 29, none⟩])
    .ret)
    .skip))
    (.seq (.seq (.reg [] [⟨some 39, (.load 46 (.tmp 6)), 46, none⟩,
      ⟨some 40, (.load 46 (.tmp 7)), 46, none⟩,
      ⟨some 41, (.binOp .eql 46 (.tmp 39) (.tmp 40) 46), 4, none⟩])
    (.cond (.tmp 41)
    (.seq (.reg [] [⟨some 8, (.assign (.const (.int .i64 5))), 29, none⟩])
    .ret)
    .skip))
    (.seq (.reg [] [⟨some 8, (.assign (.const (.int .i64 0))), 29, none⟩])
    .ret)))))))
theorem C121 {args : List AV} {r : AV} (hn : args.length ≤ 42) (h : vc Try.prog T [] A121 (Fin T [(.tmp 8)] r) ⟨envOf 0 args, []⟩) : CallP Try.prog 121 args r :=
  callP_of tok mixed Try.func121 (by kernel_rfl) (by kernel_rfl) (by kernel_rfl : Try.f121.ntmps = 42) (by kernel_rfl : Try.f121.body.bind (strip 42 (fun _ => [])) = some A121) hn h
theorem CO121 {args : List AV} {sz : Nat} {els : List AV} (hn : args.length ≤ 42) (h : vc Try.prog T [] A121 (FinO [(.tmp 8)] sz els) ⟨envOf 0 args, []⟩) : CallO Try.prog 121 args sz els :=
  callO_of tok mixed Try.func121 (by kernel_rfl) (by kernel_rfl) (by kernel_rfl : Try.f121.ntmps = 42) (by kernel_rfl : Try.f121.body.bind (strip 42 (fun _ => [])) = some A121) hn h
theorem CL121 {pre suf : List AV} {sz : Nat} {els els' : List AV} {r : LRet} (hn : (pre ++ .sl lid 0 0 els.length :: suf).length ≤ 42) (h : vc Try.prog T [] A121 (FinL T [(.tmp 8)] sz r els') ⟨envOf 0 (pre ++ .sl lid 0 0 els.length :: suf), [(lid, some ⟨sz, els, 0, false⟩)]⟩) : CallL Try.prog 121 pre sz els suf r els' :=
  callL_of tok mixed Try.func121 (by kernel_rfl) (by kernel_rfl) (by kernel_rfl : Try.f121.ntmps = 42) (by kernel_rfl : Try.f121.body.bind (strip 42 (fun _ => [])) = some A121) hn h


/-- vyakarana vyakaranalaw04.OrderWinners -/
def A4 : ACode :=
  (.seq (.reg [] [⟨some 1, (.box 25 (.tmp 0)), 0, none⟩,
      ⟨some 2, (.assign (.const (.bool false))), 4, none⟩])
    (.seq (.seq (.reg [] [⟨some 13, (.load 25 (.tmp 1)), 25, none⟩,
      ⟨some 14, (.call ⟨(.value (.func 27)), #[(.tmp 13)], #[25]⟩), 4, none⟩])
    (.cond (.tmp 14)
    (.seq (.reg [] [⟨some 15, (.call ⟨(.value (.func 28)), #[], #[]⟩), 4, none⟩,
      ⟨some 2, (.assign (.tmp 15)), 4, none⟩])
    .ret)
    .skip))
    (.seq (.reg [] [⟨some 17, (.fieldAddr 25 (.tmp 1) 0), 0, none⟩,
      ⟨some 18, (.load 22 (.tmp 17)), 22, none⟩,
      ⟨some 19, (.fieldAddr 25 (.tmp 1) 1), 0, none⟩,
      ⟨some 20, (.load 23 (.tmp 19)), 23, none⟩,
      ⟨some 21, (.fieldAddr 25 (.tmp 1) 2), 0, none⟩,
      ⟨some 22, (.load 23 (.tmp 21)), 23, none⟩,
      ⟨some 23, (.call ⟨(.value (.func 34)), #[(.tmp 18), (.tmp 20), (.tmp 22)], #[22, 23, 23]⟩), 38, none⟩,
      ⟨some 16, (.move (.tmp 23)), 38, none⟩,
      ⟨some 24, (.extract (.tmp 16) 0), 37, none⟩,
      ⟨some 25, (.extract (.tmp 16) 1), 4, none⟩,
      ⟨some 26, (.extract (.tmp 16) 2), 29, none⟩,
      ⟨some 3, (.alloc 37), 0, none⟩,
      ⟨none, (.store 37 (.tmp 3) (.tmp 24)), 0, none⟩,
      ⟨some 4, (.assign (.tmp 25)), 4, none⟩,
      ⟨some 5, (.assign (.tmp 26)), 29, none⟩])
    (.seq (.reg [] [⟨some 28, (.fieldAddr 25 (.tmp 1) 0), 0, none⟩,
      ⟨some 29, (.load 22 (.tmp 28)), 22, none⟩,
      ⟨some 30, (.fieldAddr 25 (.tmp 1) 1), 0, none⟩,
      ⟨some 31, (.load 23 (.tmp 30)), 23, none⟩,
      ⟨some 32, (.fieldAddr 25 (.tmp 1) 2), 0, none⟩,
      ⟨some 33, (.load 23 (.tmp 32)), 23, none⟩,
      ⟨some 34, (.call ⟨(.value (.func 35)), #[(.tmp 29), (.tmp 31), (.tmp 33)], #[22, 23, 23]⟩), 38, none⟩,
      ⟨some 27, (.move (.tmp 34)), 38, none⟩,
      ⟨some 35, (.extract (.tmp 27) 0), 37, none⟩,
      ⟨some 36, (.extract (.tmp 27) 1), 4, none⟩,
      ⟨some 37, (.extract (.tmp 27) 2), 29, none⟩,
      ⟨some 6, (.alloc 37), 0, none⟩,
      ⟨none, (.store 37 (.tmp 6) (.tmp 35)), 0, none⟩,
      ⟨some 7, (.assign (.tmp 36)), 4, none⟩,
      ⟨some 8, (.assign (.tmp 37)), 29, none⟩])
    (.seq (.reg [] [⟨some 39, (.fieldAddr 25 (.tmp 1) 0), 0, none⟩,
      ⟨some 40, (.load 22 (.tmp 39)), 22, none⟩,
      ⟨some 41, (.fieldAddr 25 (.tmp 1) 1), 0, none⟩,
      ⟨some 42, (.load 23 (.tmp 41)), 23, none⟩,
      ⟨some 43, (.fieldAddr 25 (.tmp 1) 2), 0, none⟩,
      ⟨some 44, (.load 23 (.tmp 43)), 23, none⟩,
      ⟨some 45, (.call ⟨(.value (.func 36)), #[(.tmp 40), (.tmp 42), (.tmp 44)], #[22, 23, 23]⟩), 40, none⟩,
      ⟨some 38, (.move (.tmp 45)), 40, none⟩,
      ⟨some 46, (.extract (.tmp 38) 0), 4, none⟩,
      ⟨some 47, (.extract (.tmp 38) 1), 29, none⟩,
      ⟨some 9, (.assign (.tmp 46)), 4, none⟩,
      ⟨some 10, (.assign (.tmp 47)), 29, none⟩])
    (.seq (.reg [] [⟨some 49, (.fieldAddr 25 (.tmp 1) 0), 0, none⟩,
      ⟨some 50, (.load 22 (.tmp 49)), 22, none⟩,
      ⟨some 51, (.fieldAddr 25 (.tmp 1) 1), 0, none⟩,
      ⟨some 52, (.load 23 (.tmp 51)), 23, none⟩,
      ⟨some 53, (.fieldAddr 25 (.tmp 1) 2), 0, none⟩,
      ⟨some 54, (.load 23 (.tmp 53)), 23, none⟩,
      ⟨some 55, (.call ⟨(.value (.func 37)), #[(.tmp 50), (.tmp 52), (.tmp 54)], #[22, 23, 23]⟩), 40, none⟩,
      ⟨some 48, (.move (.tmp 55)), 40, none⟩,
      ⟨some 56, (.extract (.tmp 48) 0), 4, none⟩,
      ⟨some 57, (.extract (.tmp 48) 1), 29, none⟩,
      ⟨some 11, (.assign (.tmp 56)), 4, none⟩,
      ⟨some 12, (.assign (.tmp 57)), 29, none⟩])
    (.seq (.reg [] [⟨some 58, (.load 37 (.tmp 3)), 37, none⟩,
      ⟨some 59, (.load 37 (.tmp 6)), 37, none⟩,
      ⟨some 60, (.binOp .eql 37 (.tmp 58) (.tmp 59) 37), 4, none⟩,
      ⟨some 61, (.move (.tmp 60)), 4, none⟩,
      ⟨some 62, (.move (.tmp 4)), 4, some (61, true)⟩,
      ⟨some 63, (.move (.tmp 7)), 4, some (61, true)⟩,
      ⟨some 64, (.binOp .eql 4 (.tmp 62) (.tmp 63) 4), 4, some (61, true)⟩,
      ⟨some 65, (.pick (.tmp 61) (.tmp 64) (.const (.bool false))), 4, none⟩,
      ⟨some 66, (.move (.tmp 65)), 4, none⟩,
      ⟨some 67, (.move (.tmp 5)), 29, some (66, true)⟩,
      ⟨some 68, (.move (.tmp 8)), 29, some (66, true)⟩,
      ⟨some 69, (.binOp .eql 29 (.tmp 67) (.tmp 68) 29), 4, some (66, true)⟩,
      ⟨some 70, (.pick (.tmp 66) (.tmp 69) (.const (.bool false))), 4, none⟩,
      ⟨some 71, (.move (.tmp 70)), 4, none⟩,
      ⟨some 72, (.move (.tmp 9)), 4, some (71, true)⟩,
      ⟨some 73, (.move (.tmp 11)), 4, some (71, true)⟩,
      ⟨some 74, (.binOp .eql 4 (.tmp 72) (.tmp 73) 4), 4, some (71, true)⟩,
      ⟨some 75, (.pick (.tmp 71) (.tmp 74) (.const (.bool false))), 4, none⟩,
      ⟨some 76, (.move (.tmp 75)), 4, none⟩,
      ⟨some 77, (.move (.tmp 10)), 29, some (76, true)⟩,
      ⟨some 78, (.move (.tmp 12)), 29, some (76, true)⟩,
      ⟨some 79, (.binOp .eql 29 (.tmp 77) (.tmp 78) 29), 4, some (76, true)⟩,
      ⟨some 80, (.pick (.tmp 76) (.tmp 79) (.const (.bool false))), 4, none⟩,
      ⟨some 81, (.move (.tmp 80)), 4, none⟩,
      ⟨some 82, (.call ⟨(.value (.func 28)), #[], #[]⟩), 4, some (81, true)⟩,
      ⟨some 83, (.pick (.tmp 81) (.tmp 82) (.const (.bool false))), 4, none⟩,
      ⟨some 2, (.assign (.tmp 83)), 4, none⟩])
    .ret)))))))
theorem C4 {args : List AV} {r : AV} (hn : args.length ≤ 84) (h : vc Try.prog T [] A4 (Fin T [(.tmp 2)] r) ⟨envOf 0 args, []⟩) : CallP Try.prog 4 args r :=
  callP_of tok mixed Try.func4 (by kernel_rfl) (by kernel_rfl) (by kernel_rfl : Try.f4.ntmps = 84) (by kernel_rfl : Try.f4.body.bind (strip 84 (fun _ => [])) = some A4) hn h
theorem CO4 {args : List AV} {sz : Nat} {els : List AV} (hn : args.length ≤ 84) (h : vc Try.prog T [] A4 (FinO [(.tmp 2)] sz els) ⟨envOf 0 args, []⟩) : CallO Try.prog 4 args sz els :=
  callO_of tok mixed Try.func4 (by kernel_rfl) (by kernel_rfl) (by kernel_rfl : Try.f4.ntmps = 84) (by kernel_rfl : Try.f4.body.bind (strip 84 (fun _ => [])) = some A4) hn h
theorem CL4 {pre suf : List AV} {sz : Nat} {els els' : List AV} {r : LRet} (hn : (pre ++ .sl lid 0 0 els.length :: suf).length ≤ 84) (h : vc Try.prog T [] A4 (FinL T [(.tmp 2)] sz r els') ⟨envOf 0 (pre ++ .sl lid 0 0 els.length :: suf), [(lid, some ⟨sz, els, 0, false⟩)]⟩) : CallL Try.prog 4 pre sz els suf r els' :=
  callL_of tok mixed Try.func4 (by kernel_rfl) (by kernel_rfl) (by kernel_rfl : Try.f4.ntmps = 84) (by kernel_rfl : Try.f4.body.bind (strip 84 (fun _ => [])) = some A4) hn h


/-- vyakarana vyakaranalaw04.OrderChecks -/
def A5 : ACode :=
  (.seq (.reg [] [⟨some 2, (.box 25 (.tmp 0)), 0, none⟩,
      ⟨some 4, (.assign (.const (.bool false))), 4, none⟩])
    (.seq (.seq (.reg [] [⟨some 9, (.load 25 (.tmp 2)), 25, none⟩,
      ⟨some 10, (.call ⟨(.value (.func 27)), #[(.tmp 9)], #[25]⟩), 4, none⟩,
      ⟨some 11, (.move (.tmp 10)), 4, none⟩,
      ⟨some 12, (.move (.tmp 1)), 28, some (11, false)⟩,
      ⟨some 13, (.call ⟨(.builtin .len), #[(.tmp 12)], #[28]⟩), 3, some (11, false)⟩,
      ⟨some 14, (.binOp .gtr 3 (.tmp 13) (.const (.int .i64 100)) 3), 4, some (11, false)⟩,
      ⟨some 15, (.pick (.tmp 11) (.const (.bool true)) (.tmp 14)), 4, none⟩])
    (.cond (.tmp 15)
    (.seq (.reg [] [⟨some 16, (.call ⟨(.value (.func 28)), #[], #[]⟩), 4, none⟩,
      ⟨some 4, (.assign (.tmp 16)), 4, none⟩])
    .ret)
    .skip))
    (.seq (.reg [] [⟨some 18, (.fieldAddr 25 (.tmp 2) 0), 0, none⟩,
      ⟨some 19, (.load 22 (.tmp 18)), 22, none⟩,
      ⟨some 20, (.fieldAddr 25 (.tmp 2) 1), 0, none⟩,
      ⟨some 21, (.load 23 (.tmp 20)), 23, none⟩,
      ⟨some 22, (.fieldAddr 25 (.tmp 2) 2), 0, none⟩,
      ⟨some 23, (.load 23 (.tmp 22)), 23, none⟩,
      ⟨some 24, (.move (.tmp 1)), 28, none⟩,
      ⟨some 25, (.call ⟨(.value (.func 38)), #[(.tmp 19), (.tmp 21), (.tmp 23), (.tmp 24)], #[22, 23, 23, 28]⟩), 42, none⟩,
      ⟨some 17, (.move (.tmp 25)), 42, none⟩,
      ⟨some 26, (.extract (.tmp 17) 0), 3, none⟩,
      ⟨some 27, (.extract (.tmp 17) 1), 29, none⟩,
      ⟨some 5, (.assign (.tmp 26)), 3, none⟩,
      ⟨some 6, (.assign (.tmp 27)), 29, none⟩])
    (.seq (.reg [] [⟨some 29, (.fieldAddr 25 (.tmp 2) 0), 0, none⟩,
      ⟨some 30, (.load 22 (.tmp 29)), 22, none⟩,
      ⟨some 31, (.fieldAddr 25 (.tmp 2) 1), 0, none⟩,
      ⟨some 32, (.load 23 (.tmp 31)), 23, none⟩,
      ⟨some 33, (.fieldAddr 25 (.tmp 2) 2), 0, none⟩,
      ⟨some 34, (.load 23 (.tmp 33)), 23, none⟩,
      ⟨some 35, (.move (.tmp 1)), 28, none⟩,
      ⟨some 36, (.call ⟨(.value (.func 39)), #[(.tmp 30), (.tmp 32), (.tmp 34), (.tmp 35)], #[22, 23, 23, 28]⟩), 42, none⟩,
      ⟨some 28, (.move (.tmp 36)), 42, none⟩,
      ⟨some 37, (.extract (.tmp 28) 0), 3, none⟩,
      ⟨some 38, (.extract (.tmp 28) 1), 29, none⟩,
      ⟨some 7, (.assign (.tmp 37)), 3, none⟩,
      ⟨some 8, (.assign (.tmp 38)), 29, none⟩])
    (.seq (.reg [] [⟨some 39, (.move (.tmp 5)), 3, none⟩,
      ⟨some 40, (.move (.tmp 7)), 3, none⟩,
      ⟨some 41, (.binOp .eql 3 (.tmp 39) (.tmp 40) 3), 4, none⟩,
      ⟨some 42, (.move (.tmp 41)), 4, none⟩,
      ⟨some 43, (.move (.tmp 6)), 29, some (42, true)⟩,
      ⟨some 44, (.move (.tmp 8)), 29, some (42, true)⟩,
      ⟨some 45, (.binOp .eql 29 (.tmp 43) (.tmp 44) 29), 4, some (42, true)⟩,
      ⟨some 46, (.pick (.tmp 42) (.tmp 45) (.const (.bool false))), 4, none⟩,
      ⟨some 47, (.move (.tmp 46)), 4, none⟩,
      ⟨some 48, (.call ⟨(.value (.func 28)), #[], #[]⟩), 4, some (47, true)⟩,
      ⟨some 49, (.pick (.tmp 47) (.tmp 48) (.const (.bool false))), 4, none⟩,
      ⟨some 4, (.assign (.tmp 49)), 4, none⟩])
    .ret)))))
theorem C5 {args : List AV} {r : AV} (hn : args.length ≤ 50) (h : vc Try.prog T [] A5 (Fin T [(.tmp 4)] r) ⟨envOf 0 args, []⟩) : CallP Try.prog 5 args r :=
  callP_of tok mixed Try.func5 (by kernel_rfl) (by kernel_rfl) (by kernel_rfl : Try.f5.ntmps = 50) (by kernel_rfl : Try.f5.body.bind (strip 50 (fun _ => [])) = some A5) hn h
theorem CO5 {args : List AV} {sz : Nat} {els : List AV} (hn : args.length ≤ 50) (h : vc Try.prog T [] A5 (FinO [(.tmp 4)] sz els) ⟨envOf 0 args, []⟩) : CallO Try.prog 5 args sz els :=
  callO_of tok mixed Try.func5 (by kernel_rfl) (by kernel_rfl) (by kernel_rfl : Try.f5.ntmps = 50) (by kernel_rfl : Try.f5.body.bind (strip 50 (fun _ => [])) = some A5) hn h
theorem CL5 {pre suf : List AV} {sz : Nat} {els els' : List AV} {r : LRet} (hn : (pre ++ .sl lid 0 0 els.length :: suf).length ≤ 50) (h : vc Try.prog T [] A5 (FinL T [(.tmp 4)] sz r els') ⟨envOf 0 (pre ++ .sl lid 0 0 els.length :: suf), [(lid, some ⟨sz, els, 0, false⟩)]⟩) : CallL Try.prog 5 pre sz els suf r els' :=
  callL_of tok mixed Try.func5 (by kernel_rfl) (by kernel_rfl) (by kernel_rfl : Try.f5.ntmps = 50) (by kernel_rfl : Try.f5.body.bind (strip 50 (fun _ => [])) = some A5) hn h


/-- vyakarana vyakaranalaw04.OrderLasts -/
def A6 : ACode :=
  (.seq (.reg [] [⟨some 2, (.box 25 (.tmp 0)), 0, none⟩,
      ⟨some 3, (.box 48 (.tmp 1)), 0, none⟩,
      ⟨some 4, (.assign (.const (.bool false))), 4, none⟩])
    (.seq (.seq (.reg [] [⟨some 9, (.load 25 (.tmp 2)), 25, none⟩,
      ⟨some 10, (.call ⟨(.value (.func 27)), #[(.tmp 9)], #[25]⟩), 4, none⟩])
    (.cond (.tmp 10)
    (.seq (.reg [] [⟨some 11, (.call ⟨(.value (.func 28)), #[], #[]⟩), 4, none⟩,
      ⟨some 4, (.assign (.tmp 11)), 4, none⟩])
    .ret)
    .skip))
    (.seq (.reg [] [⟨some 13, (.fieldAddr 25 (.tmp 2) 0), 0, none⟩,
      ⟨some 14, (.load 22 (.tmp 13)), 22, none⟩,
      ⟨some 15, (.fieldAddr 25 (.tmp 2) 1), 0, none⟩,
      ⟨some 16, (.load 23 (.tmp 15)), 23, none⟩,
      ⟨some 17, (.fieldAddr 48 (.tmp 3) 0), 0, none⟩,
      ⟨some 18, (.load 46 (.tmp 17)), 46, none⟩,
      ⟨some 19, (.fieldAddr 48 (.tmp 3) 1), 0, none⟩,
      ⟨some 20, (.load 46 (.tmp 19)), 46, none⟩,
      ⟨some 21, (.call ⟨(.value (.func 40)), #[(.tmp 14), (.tmp 16), (.tmp 18), (.tmp 20)], #[22, 23, 46, 46]⟩), 40, none⟩,
      ⟨some 12, (.move (.tmp 21)), 40, none⟩,
      ⟨some 22, (.extract (.tmp 12) 0), 4, none⟩,
      ⟨some 23, (.extract (.tmp 12) 1), 29, none⟩,
      ⟨some 5, (.assign (.tmp 22)), 4, none⟩,
      ⟨some 6, (.assign (.tmp 23)), 29, none⟩])
    (.seq (.reg [] [⟨some 25, (.fieldAddr 25 (.tmp 2) 0), 0, none⟩,
      ⟨some 26, (.load 22 (.tmp 25)), 22, none⟩,
      ⟨some 27, (.fieldAddr 25 (.tmp 2) 1), 0, none⟩,
      ⟨some 28, (.load 23 (.tmp 27)), 23, none⟩,
      ⟨some 29, (.fieldAddr 48 (.tmp 3) 0), 0, none⟩,
      ⟨some 30, (.load 46 (.tmp 29)), 46, none⟩,
      ⟨some 31, (.fieldAddr 48 (.tmp 3) 1), 0, none⟩,
      ⟨some 32, (.load 46 (.tmp 31)), 46, none⟩,
      ⟨some 33, (.call ⟨(.value (.func 41)), #[(.tmp 26), (.tmp 28), (.tmp 30), (.tmp 32)], #[22, 23, 46, 46]⟩), 40, none⟩,
      ⟨some 24, (.move (.tmp 33)), 40, none⟩,
      ⟨some 34, (.extract (.tmp 24) 0), 4, none⟩,
      ⟨some 35, (.extract (.tmp 24) 1), 29, none⟩,
      ⟨some 7, (.assign (.tmp 34)), 4, none⟩,
      ⟨some 8, (.assign (.tmp 35)), 29, none⟩])
    (.seq (.reg [] [⟨some 36, (.move (.tmp 5)), 4, none⟩,
      ⟨some 37, (.move (.tmp 7)), 4, none⟩,
      ⟨some 38, (.binOp .eql 4 (.tmp 36) (.tmp 37) 4), 4, none⟩,
      ⟨some 39, (.move (.tmp 38)), 4, none⟩,
      ⟨some 40, (.move (.tmp 6)), 29, some (39, true)⟩,
      ⟨some 41, (.move (.tmp 8)), 29, some (39, true)⟩,
      ⟨some 42, (.binOp .eql 29 (.tmp 40) (.tmp 41) 29), 4, some (39, true)⟩,
      ⟨some 43, (.pick (.tmp 39) (.tmp 42) (.const (.bool false))), 4, none⟩,
      ⟨some 44, (.move (.tmp 43)), 4, none⟩,
      ⟨some 45, (.call ⟨(.value (.func 28)), #[], #[]⟩), 4, some (44, true)⟩,
      ⟨some 46, (.pick (.tmp 44) (.tmp 45) (.const (.bool false))), 4, none⟩,
      ⟨some 4, (.assign (.tmp 46)), 4, none⟩])
    .ret)))))
theorem C6 {args : List AV} {r : AV} (hn : args.length ≤ 47) (h : vc Try.prog T [] A6 (Fin T [(.tmp 4)] r) ⟨envOf 0 args, []⟩) : CallP Try.prog 6 args r :=
  callP_of tok mixed Try.func6 (by kernel_rfl) (by kernel_rfl) (by kernel_rfl : Try.f6.ntmps = 47) (by kernel_rfl : Try.f6.body.bind (strip 47 (fun _ => [])) = some A6) hn h
theorem CO6 {args : List AV} {sz : Nat} {els : List AV} (hn : args.length ≤ 47) (h : vc Try.prog T [] A6 (FinO [(.tmp 4)] sz els) ⟨envOf 0 args, []⟩) : CallO Try.prog 6 args sz els :=
  callO_of tok mixed Try.func6 (by kernel_rfl) (by kernel_rfl) (by kernel_rfl : Try.f6.ntmps = 47) (by kernel_rfl : Try.f6.body.bind (strip 47 (fun _ => [])) = some A6) hn h
theorem CL6 {pre suf : List AV} {sz : Nat} {els els' : List AV} {r : LRet} (hn : (pre ++ .sl lid 0 0 els.length :: suf).length ≤ 47) (h : vc Try.prog T [] A6 (FinL T [(.tmp 4)] sz r els') ⟨envOf 0 (pre ++ .sl lid 0 0 els.length :: suf), [(lid, some ⟨sz, els, 0, false⟩)]⟩) : CallL Try.prog 6 pre sz els suf r els' :=
  callL_of tok mixed Try.func6 (by kernel_rfl) (by kernel_rfl) (by kernel_rfl : Try.f6.ntmps = 47) (by kernel_rfl : Try.f6.body.bind (strip 47 (fun _ => [])) = some A6) hn h


/-- vyakarana vyakaranalaw04.OrderBeats -/
def A7 : ACode :=
  (.seq (.reg [] [⟨some 2, (.box 25 (.tmp 0)), 0, none⟩,
      ⟨some 3, (.box 48 (.tmp 1)), 0, none⟩,
      ⟨some 4, (.assign (.const (.bool false))), 4, none⟩])
    (.seq (.seq (.reg [] [⟨some 14, (.load 25 (.tmp 2)), 25, none⟩,
      ⟨some 15, (.call ⟨(.value (.func 27)), #[(.tmp 14)], #[25]⟩), 4, none⟩])
    (.cond (.tmp 15)
    (.seq (.reg [] [⟨some 16, (.call ⟨(.value (.func 28)), #[], #[]⟩), 4, none⟩,
      ⟨some 4, (.assign (.tmp 16)), 4, none⟩])
    .ret)
    .skip))
    (.seq (.reg [] [⟨some 18, (.fieldAddr 25 (.tmp 2) 0), 0, none⟩,
      ⟨some 19, (.load 22 (.tmp 18)), 22, none⟩,
      ⟨some 20, (.fieldAddr 25 (.tmp 2) 1), 0, none⟩,
      ⟨some 21, (.load 23 (.tmp 20)), 23, none⟩,
      ⟨some 22, (.fieldAddr 25 (.tmp 2) 2), 0, none⟩,
      ⟨some 23, (.load 23 (.tmp 22)), 23, none⟩,
      ⟨some 24, (.fieldAddr 48 (.tmp 3) 0), 0, none⟩,
      ⟨some 25, (.load 46 (.tmp 24)), 46, none⟩,
      ⟨some 26, (.fieldAddr 48 (.tmp 3) 1), 0, none⟩,
      ⟨some 27, (.load 46 (.tmp 26)), 46, none⟩,
      ⟨some 28, (.call ⟨(.value (.func 42)), #[(.tmp 19), (.tmp 21), (.tmp 23), (.tmp 25), (.tmp 27)], #[22, 23, 23, 46, 46]⟩), 42, none⟩,
      ⟨some 17, (.move (.tmp 28)), 42, none⟩,
      ⟨some 29, (.extract (.tmp 17) 0), 3, none⟩,
      ⟨some 30, (.extract (.tmp 17) 1), 29, none⟩,
      ⟨some 5, (.assign (.tmp 29)), 3, none⟩,
      ⟨some 6, (.assign (.tmp 30)), 29, none⟩])
    (.seq (.reg [] [⟨some 32, (.fieldAddr 25 (.tmp 2) 0), 0, none⟩,
      ⟨some 33, (.load 22 (.tmp 32)), 22, none⟩,
      ⟨some 34, (.fieldAddr 25 (.tmp 2) 1), 0, none⟩,
      ⟨some 35, (.load 23 (.tmp 34)), 23, none⟩,
      ⟨some 36, (.fieldAddr 25 (.tmp 2) 2), 0, none⟩,
      ⟨some 37, (.load 23 (.tmp 36)), 23, none⟩,
      ⟨some 38, (.fieldAddr 48 (.tmp 3) 0), 0, none⟩,
      ⟨some 39, (.load 46 (.tmp 38)), 46, none⟩,
      ⟨some 40, (.fieldAddr 48 (.tmp 3) 1), 0, none⟩,
      ⟨some 41, (.load 46 (.tmp 40)), 46, none⟩,
      ⟨some 42, (.call ⟨(.value (.func 43)), #[(.tmp 33), (.tmp 35), (.tmp 37), (.tmp 39), (.tmp 41)], #[22, 23, 23, 46, 46]⟩), 42, none⟩,
      ⟨some 31, (.move (.tmp 42)), 42, none⟩,
      ⟨some 43, (.extract (.tmp 31) 0), 3, none⟩,
      ⟨some 44, (.extract (.tmp 31) 1), 29, none⟩,
      ⟨some 7, (.assign (.tmp 43)), 3, none⟩,
      ⟨some 8, (.assign (.tmp 44)), 29, none⟩])
    (.seq (.seq (.reg [] [⟨some 45, (.move (.tmp 5)), 3, none⟩,
      ⟨some 46, (.move (.tmp 7)), 3, none⟩,
      ⟨some 47, (.binOp .neq 3 (.tmp 45) (.tmp 46) 3), 4, none⟩,
      ⟨some 48, (.move (.tmp 47)), 4, none⟩,
      ⟨some 49, (.move (.tmp 6)), 29, some (48, false)⟩,
      ⟨some 50, (.move (.tmp 8)), 29, some (48, false)⟩,
      ⟨some 51, (.binOp .neq 29 (.tmp 49) (.tmp 50) 29), 4, some (48, false)⟩,
      ⟨some 52, (.pick (.tmp 48) (.const (.bool true)) (.tmp 51)), 4, none⟩])
    (.cond (.tmp 52)
    (.seq (.reg [] [⟨some 4, (.assign (.const (.bool false))), 4, none⟩])
    .ret)
    .skip))
    (.seq (.seq (.reg [] [⟨some 53, (.move (.tmp 6)), 29, none⟩,
      ⟨some 54, (.binOp .neq 29 (.tmp 53) (.const (.int .i64 0)) 29), 4, none⟩])
    (.cond (.tmp 54)
    (.seq (.reg [] [⟨some 55, (.call ⟨(.value (.func 28)), #[], #[]⟩), 4, none⟩,
      ⟨some 4, (.assign (.tmp 55)), 4, none⟩])
    .ret)
    .skip))
    (.seq (.reg [] [⟨some 57, (.fieldAddr 25 (.tmp 2) 0), 0, none⟩,
      ⟨some 58, (.load 22 (.tmp 57)), 22, none⟩,
      ⟨some 59, (.fieldAddr 25 (.tmp 2) 1), 0, none⟩,
      ⟨some 60, (.load 23 (.tmp 59)), 23, none⟩,
      ⟨some 61, (.fieldAddr 25 (.tmp 2) 2), 0, none⟩,
      ⟨some 62, (.load 23 (.tmp 61)), 23, none⟩,
      ⟨some 63, (.fieldAddr 48 (.tmp 3) 1), 0, none⟩,
      ⟨some 64, (.load 46 (.tmp 63)), 46, none⟩,
      ⟨some 65, (.fieldAddr 48 (.tmp 3) 0), 0, none⟩,
      ⟨some 66, (.load 46 (.tmp 65)), 46, none⟩,
      ⟨some 67, (.call ⟨(.value (.func 42)), #[(.tmp 58), (.tmp 60), (.tmp 62), (.tmp 64), (.tmp 66)], #[22, 23, 23, 46, 46]⟩), 42, none⟩,
      ⟨some 56, (.move (.tmp 67)), 42, none⟩,
      ⟨some 68, (.extract (.tmp 56) 0), 3, none⟩,
      ⟨some 69, (.extract (.tmp 56) 1), 29, none⟩,
      ⟨some 9, (.assign (.tmp 68)), 3, none⟩,
      ⟨some 10, (.assign (.tmp 69)), 29, none⟩])
    (.seq (.reg [] [⟨some 11, (.assign (.const (.bool false))), 4, none⟩,
      ⟨some 12, (.assign (.const (.bool false))), 4, none⟩])
    (.seq (.seq (.reg [] [⟨some 13, (.assign (.const (.int .i64 0))), 3, none⟩])
    (.block 0 (.loop (.seq (.seq (.reg [] [⟨some 70, (.move (.tmp 13)), 3, none⟩,
      ⟨some 71, (.fieldAddr 25 (.tmp 2) 2), 0, none⟩,
      ⟨some 72, (.load 23 (.tmp 71)), 23, none⟩,
      ⟨some 73, (.call ⟨(.builtin .len), #[(.tmp 72)], #[23]⟩), 3, none⟩,
      ⟨some 74, (.binOp .lss 3 (.tmp 70) (.tmp 73) 3), 4, none⟩])
    (.cond (.tmp 74)
    .skip
    (.exit 0)))
    (.seq (.block 1 (.seq (.reg [] [⟨some 77, (.move (.tmp 11)), 4, none⟩,
      ⟨some 78, (.move (.tmp 77)), 4, none⟩,
      ⟨some 79, (.fieldAddr 25 (.tmp 2) 2), 0, some (78, false)⟩,
      ⟨some 80, (.load 23 (.tmp 79)), 23, some (78, false)⟩,
      ⟨some 81, (.move (.tmp 13)), 3, some (78, false)⟩,
      ⟨some 82, (.indexAddr 23 (.tmp 80) (.tmp 81)), 0, some (78, false)⟩,
      ⟨some 83, (.load 3 (.tmp 82)), 3, some (78, false)⟩,
      ⟨some 84, (.binOp .eql 3 (.tmp 83) (.const (.int .i64 3)) 3), 4, some (78, false)⟩,
      ⟨some 85, (.pick (.tmp 78) (.const (.bool true)) (.tmp 84)), 4, none⟩,
      ⟨some 11, (.assign (.tmp 85)), 4, none⟩])
    (.reg [] [⟨some 86, (.move (.tmp 12)), 4, none⟩,
      ⟨some 87, (.move (.tmp 86)), 4, none⟩,
      ⟨some 88, (.fieldAddr 25 (.tmp 2) 2), 0, some (87, false)⟩,
      ⟨some 89, (.load 23 (.tmp 88)), 23, some (87, false)⟩,
      ⟨some 90, (.move (.tmp 13)), 3, some (87, false)⟩,
      ⟨some 91, (.indexAddr 23 (.tmp 89) (.tmp 90)), 0, some (87, false)⟩,
      ⟨some 92, (.load 3 (.tmp 91)), 3, some (87, false)⟩,
      ⟨some 93, (.binOp .eql 3 (.tmp 92) (.const (.int .i64 4)) 3), 4, some (87, false)⟩,
      ⟨some 94, (.pick (.tmp 87) (.const (.bool true)) (.tmp 93)), 4, none⟩,
      ⟨some 12, (.assign (.tmp 94)), 4, none⟩])))
    (.reg [] [⟨some 75, (.move (.tmp 13)), 3, none⟩,
      ⟨some 76, (.binOp .add 3 (.tmp 75) (.const (.int .i64 1)) 3), 3, none⟩,
      ⟨some 13, (.assign (.tmp 76)), 3, none⟩]))))))
    (.seq (.reg [] [⟨some 95, (.move (.tmp 10)), 29, none⟩,
      ⟨some 96, (.binOp .eql 29 (.tmp 95) (.const (.int .i64 0)) 29), 4, none⟩,
      ⟨some 97, (.move (.tmp 96)), 4, none⟩,
      ⟨some 98, (.move (.tmp 9)), 3, some (97, true)⟩,
      ⟨some 99, (.move (.tmp 5)), 3, some (97, true)⟩,
      ⟨some 100, (.unOp .neg 3 (.tmp 99)), 3, some (97, true)⟩,
      ⟨some 101, (.binOp .eql 3 (.tmp 98) (.tmp 100) 3), 4, some (97, true)⟩,
      ⟨some 102, (.pick (.tmp 97) (.tmp 101) (.const (.bool false))), 4, none⟩,
      ⟨some 103, (.move (.tmp 102)), 4, none⟩,
      ⟨some 104, (.move (.tmp 11)), 4, some (103, true)⟩,
      ⟨some 105, (.unOp .not 4 (.tmp 104)), 4, some (103, true)⟩,
      ⟨some 106, (.move (.tmp 105)), 4, some (103, true)⟩,
      ⟨some 107, (.move (.tmp 12)), 4, some (106, false)⟩,
      ⟨some 108, (.unOp .not 4 (.tmp 107)), 4, some (106, false)⟩,
      ⟨some 109, (.pick (.tmp 106) (.const (.bool true)) (.tmp 108)), 4, some (103, true)⟩,
      ⟨some 110, (.move (.tmp 109)), 4, some (103, true)⟩,
      ⟨some 111, (.move (.tmp 5)), 3, some (110, false)⟩,
      ⟨some 112, (.binOp .neq 3 (.tmp 111) (.const (.int .i64 0)) 3), 4, some (110, false)⟩,
      ⟨some 113, (.pick (.tmp 110) (.const (.bool true)) (.tmp 112)), 4, some (103, true)⟩,
      ⟨some 114, (.pick (.tmp 103) (.tmp 113) (.const (.bool false))), 4, none⟩,
      ⟨some 115, (.move (.tmp 114)), 4, none⟩,
      ⟨some 116, (.call ⟨(.value (.func 28)), #[], #[]⟩), 4, some (115, true)⟩,
      ⟨some 117, (.pick (.tmp 115) (.tmp 116) (.const (.bool false))), 4, none⟩,
      ⟨some 4, (.assign (.tmp 117)), 4, none⟩])
    .ret))))))))))
theorem C7 {args : List AV} {r : AV} (hn : args.length ≤ 118) (h : vc Try.prog T [] A7 (Fin T [(.tmp 4)] r) ⟨envOf 0 args, []⟩) : CallP Try.prog 7 args r :=
  callP_of tok mixed Try.func7 (by kernel_rfl) (by kernel_rfl) (by kernel_rfl : Try.f7.ntmps = 118) (by kernel_rfl : Try.f7.body.bind (strip 118 (fun _ => [])) = some A7) hn h
theorem CO7 {args : List AV} {sz : Nat} {els : List AV} (hn : args.length ≤ 118) (h : vc Try.prog T [] A7 (FinO [(.tmp 4)] sz els) ⟨envOf 0 args, []⟩) : CallO Try.prog 7 args sz els :=
  callO_of tok mixed Try.func7 (by kernel_rfl) (by kernel_rfl) (by kernel_rfl : Try.f7.ntmps = 118) (by kernel_rfl : Try.f7.body.bind (strip 118 (fun _ => [])) = some A7) hn h
theorem CL7 {pre suf : List AV} {sz : Nat} {els els' : List AV} {r : LRet} (hn : (pre ++ .sl lid 0 0 els.length :: suf).length ≤ 118) (h : vc Try.prog T [] A7 (FinL T [(.tmp 4)] sz r els') ⟨envOf 0 (pre ++ .sl lid 0 0 els.length :: suf), [(lid, some ⟨sz, els, 0, false⟩)]⟩) : CallL Try.prog 7 pre sz els suf r els' :=
  callL_of tok mixed Try.func7 (by kernel_rfl) (by kernel_rfl) (by kernel_rfl : Try.f7.ntmps = 118) (by kernel_rfl : Try.f7.body.bind (strip 118 (fun _ => [])) = some A7) hn h


/-- vyakarana vyakaranalaw04.OrderDecides -/
def A8 : ACode :=
  (.seq (.reg [] [⟨some 3, (.box 25 (.tmp 0)), 0, none⟩,
      ⟨some 4, (.box 48 (.tmp 1)), 0, none⟩,
      ⟨some 6, (.assign (.const (.bool false))), 4, none⟩])
    (.seq (.seq (.reg [] [⟨some 13, (.load 25 (.tmp 3)), 25, none⟩,
      ⟨some 14, (.call ⟨(.value (.func 27)), #[(.tmp 13)], #[25]⟩), 4, none⟩])
    (.cond (.tmp 14)
    (.seq (.reg [] [⟨some 15, (.call ⟨(.value (.func 28)), #[], #[]⟩), 4, none⟩,
      ⟨some 6, (.assign (.tmp 15)), 4, none⟩])
    .ret)
    .skip))
    (.seq (.reg [] [⟨some 17, (.fieldAddr 25 (.tmp 3) 0), 0, none⟩,
      ⟨some 18, (.load 22 (.tmp 17)), 22, none⟩,
      ⟨some 19, (.fieldAddr 25 (.tmp 3) 1), 0, none⟩,
      ⟨some 20, (.load 23 (.tmp 19)), 23, none⟩,
      ⟨some 21, (.move (.tmp 2)), 3, none⟩,
      ⟨some 22, (.fieldAddr 48 (.tmp 4) 0), 0, none⟩,
      ⟨some 23, (.load 46 (.tmp 22)), 46, none⟩,
      ⟨some 24, (.fieldAddr 48 (.tmp 4) 1), 0, none⟩,
      ⟨some 25, (.load 46 (.tmp 24)), 46, none⟩,
      ⟨some 26, (.call ⟨(.value (.func 44)), #[(.tmp 18), (.tmp 20), (.tmp 21), (.tmp 23), (.tmp 25)], #[22, 23, 3, 46, 46]⟩), 42, none⟩,
      ⟨some 16, (.move (.tmp 26)), 42, none⟩,
      ⟨some 27, (.extract (.tmp 16) 0), 3, none⟩,
      ⟨some 28, (.extract (.tmp 16) 1), 29, none⟩,
      ⟨some 7, (.assign (.tmp 27)), 3, none⟩,
      ⟨some 8, (.assign (.tmp 28)), 29, none⟩])
    (.seq (.reg [] [⟨some 30, (.fieldAddr 25 (.tmp 3) 0), 0, none⟩,
      ⟨some 31, (.load 22 (.tmp 30)), 22, none⟩,
      ⟨some 32, (.fieldAddr 25 (.tmp 3) 1), 0, none⟩,
      ⟨some 33, (.load 23 (.tmp 32)), 23, none⟩,
      ⟨some 34, (.move (.tmp 2)), 3, none⟩,
      ⟨some 35, (.fieldAddr 48 (.tmp 4) 0), 0, none⟩,
      ⟨some 36, (.load 46 (.tmp 35)), 46, none⟩,
      ⟨some 37, (.fieldAddr 48 (.tmp 4) 1), 0, none⟩,
      ⟨some 38, (.load 46 (.tmp 37)), 46, none⟩,
      ⟨some 39, (.call ⟨(.value (.func 45)), #[(.tmp 31), (.tmp 33), (.tmp 34), (.tmp 36), (.tmp 38)], #[22, 23, 3, 46, 46]⟩), 42, none⟩,
      ⟨some 29, (.move (.tmp 39)), 42, none⟩,
      ⟨some 40, (.extract (.tmp 29) 0), 3, none⟩,
      ⟨some 41, (.extract (.tmp 29) 1), 29, none⟩,
      ⟨some 9, (.assign (.tmp 40)), 3, none⟩,
      ⟨some 10, (.assign (.tmp 41)), 29, none⟩])
    (.seq (.seq (.reg [] [⟨some 42, (.move (.tmp 7)), 3, none⟩,
      ⟨some 43, (.move (.tmp 9)), 3, none⟩,
      ⟨some 44, (.binOp .neq 3 (.tmp 42) (.tmp 43) 3), 4, none⟩,
      ⟨some 45, (.move (.tmp 44)), 4, none⟩,
      ⟨some 46, (.move (.tmp 8)), 29, some (45, false)⟩,
      ⟨some 47, (.move (.tmp 10)), 29, some (45, false)⟩,
      ⟨some 48, (.binOp .neq 29 (.tmp 46) (.tmp 47) 29), 4, some (45, false)⟩,
      ⟨some 49, (.pick (.tmp 45) (.const (.bool true)) (.tmp 48)), 4, none⟩])
    (.cond (.tmp 49)
    (.seq (.reg [] [⟨some 6, (.assign (.const (.bool false))), 4, none⟩])
    .ret)
    .skip))
    (.seq (.reg [] [⟨some 51, (.fieldAddr 25 (.tmp 3) 0), 0, none⟩,
      ⟨some 52, (.load 22 (.tmp 51)), 22, none⟩,
      ⟨some 53, (.fieldAddr 25 (.tmp 3) 1), 0, none⟩,
      ⟨some 54, (.load 23 (.tmp 53)), 23, none⟩,
      ⟨some 55, (.move (.tmp 2)), 3, none⟩,
      ⟨some 56, (.fieldAddr 48 (.tmp 4) 1), 0, none⟩,
      ⟨some 57, (.load 46 (.tmp 56)), 46, none⟩,
      ⟨some 58, (.fieldAddr 48 (.tmp 4) 0), 0, none⟩,
      ⟨some 59, (.load 46 (.tmp 58)), 46, none⟩,
      ⟨some 60, (.call ⟨(.value (.func 44)), #[(.tmp 52), (.tmp 54), (.tmp 55), (.tmp 57), (.tmp 59)], #[22, 23, 3, 46, 46]⟩), 42, none⟩,
      ⟨some 50, (.move (.tmp 60)), 42, none⟩,
      ⟨some 61, (.extract (.tmp 50) 0), 3, none⟩,
      ⟨some 62, (.extract (.tmp 50) 1), 29, none⟩,
      ⟨some 11, (.assign (.tmp 61)), 3, none⟩,
      ⟨some 12, (.assign (.tmp 62)), 29, none⟩])
    (.seq (.reg [] [⟨some 63, (.move (.tmp 12)), 29, none⟩,
      ⟨some 64, (.move (.tmp 8)), 29, none⟩,
      ⟨some 65, (.binOp .eql 29 (.tmp 63) (.tmp 64) 29), 4, none⟩,
      ⟨some 66, (.move (.tmp 65)), 4, none⟩,
      ⟨some 67, (.move (.tmp 8)), 29, some (66, true)⟩,
      ⟨some 68, (.binOp .neq 29 (.tmp 67) (.const (.int .i64 0)) 29), 4, some (66, true)⟩,
      ⟨some 69, (.move (.tmp 68)), 4, some (66, true)⟩,
      ⟨some 70, (.move (.tmp 11)), 3, some (69, false)⟩,
      ⟨some 71, (.move (.tmp 7)), 3, some (69, false)⟩,
      ⟨some 72, (.unOp .neg 3 (.tmp 71)), 3, some (69, false)⟩,
      ⟨some 73, (.binOp .eql 3 (.tmp 70) (.tmp 72) 3), 4, some (69, false)⟩,
      ⟨some 74, (.pick (.tmp 69) (.const (.bool true)) (.tmp 73)), 4, some (66, true)⟩,
      ⟨some 75, (.pick (.tmp 66) (.tmp 74) (.const (.bool false))), 4, none⟩,
      ⟨some 76, (.move (.tmp 75)), 4, none⟩,
      ⟨some 77, (.call ⟨(.value (.func 28)), #[], #[]⟩), 4, some (76, true)⟩,
      ⟨some 78, (.pick (.tmp 76) (.tmp 77) (.const (.bool false))), 4, none⟩,
      ⟨some 6, (.assign (.tmp 78)), 4, none⟩])
    .ret)))))))
theorem C8 {args : List AV} {r : AV} (hn : args.length ≤ 79) (h : vc Try.prog T [] A8 (Fin T [(.tmp 6)] r) ⟨envOf 0 args, []⟩) : CallP Try.prog 8 args r :=
  callP_of tok mixed Try.func8 (by kernel_rfl) (by kernel_rfl) (by kernel_rfl : Try.f8.ntmps = 79) (by kernel_rfl : Try.f8.body.bind (strip 79 (fun _ => [])) = some A8) hn h
theorem CO8 {args : List AV} {sz : Nat} {els : List AV} (hn : args.length ≤ 79) (h : vc Try.prog T [] A8 (FinO [(.tmp 6)] sz els) ⟨envOf 0 args, []⟩) : CallO Try.prog 8 args sz els :=
  callO_of tok mixed Try.func8 (by kernel_rfl) (by kernel_rfl) (by kernel_rfl : Try.f8.ntmps = 79) (by kernel_rfl : Try.f8.body.bind (strip 79 (fun _ => [])) = some A8) hn h
theorem CL8 {pre suf : List AV} {sz : Nat} {els els' : List AV} {r : LRet} (hn : (pre ++ .sl lid 0 0 els.length :: suf).length ≤ 79) (h : vc Try.prog T [] A8 (FinL T [(.tmp 6)] sz r els') ⟨envOf 0 (pre ++ .sl lid 0 0 els.length :: suf), [(lid, some ⟨sz, els, 0, false⟩)]⟩) : CallL Try.prog 8 pre sz els suf r els' :=
  callL_of tok mixed Try.func8 (by kernel_rfl) (by kernel_rfl) (by kernel_rfl : Try.f8.ntmps = 79) (by kernel_rfl : Try.f8.body.bind (strip 79 (fun _ => [])) = some A8) hn h


end Go.Proofs.Ytaooenmkofjafaa

section
/- Contracts: Winner and IsClear, and the statement OrderWinners. -/
namespace Go.Proofs.Ytaooenmkofjafaa
open Go.Abs Go
set_option maxRecDepth 20000
set_option maxHeartbeats 2000000
attribute [local irreducible] PreK CondK CallK CallG CallX LoopK
attribute [local simp] avsEq avEq akind teq vkind vEq candS_eq

/-- What Winner answers. -/
def WinnerR (s : List Rule) (w gs : List Int) : Choice × Bool × Int :=
  if orderErr s w gs ≠ 0 then (⟨0, 0, 0⟩, false, orderErr s w gs) else ((choiceM s w gs).getD ⟨0, 0, 0⟩, (choiceM s w gs).isSome, 0)
/-- What IsClear answers where the input is whole. -/
def clearM (s : List Rule) (w gs : List Int) : Bool := match stepsM s w with | [] => true | x :: l => (bestM s w gs (x :: l)).isSome
def ClearR (s : List Rule) (w gs : List Int) : Bool × Int := if orderErr s w gs ≠ 0 then (false, orderErr s w gs) else (clearM s w gs, 0)

theorem Winner_c (s : List Rule) (w gs : List Int) (hs : Sys.small s) (hw : w.length ≤ 1000) (hgl : gs.length ≤ 1000) :
    CallP Try.prog 34 [rulesV s, ints w, ints gs] (.tup [choiceV (WinnerR s w gs).1, bv (WinnerR s w gs).2.1, iv (WinnerR s w gs).2.2]) := by
  refine C34 (by simp) ?_
  have hck := ocheck_c s w [gs] hs hw (by simp) (by simpa using hgl)
  rw [ocheck_one] at hck
  simp [A34]
  try simp 
  repeat' (first
    | (refine CallX.pure (hck) (by simp) (by simp) ?_; try simp )
    | (refine CallK.intro (hck) (by simp) (by simp) ?_; try simp )
    | (refine CallG.intro (fun _ => hck) (by simp) (by simp) ?_; try simp )
    | ((with_reducible refine PreK.intro ?_ ?_); (next => (first | omega | (intros; first | omega | (refine ⟨by omega, ?_⟩; repeat (first | assumption | constructor)) | assumption))); intro _; try simp )
    | fail)
  refine CondK.intro (fun h1 => ?_) (fun h1 => ?_)
  · simp at h1
    simp [WinnerR, h1]
  · simp at h1
    have hd := choice_c s w gs hs hw (gErr_ok (orderErr_zero h1).2) hgl
    try simp 
    repeat' (first
      | (refine CallX.pure (hd) (by simp) (by simp) ?_; try simp )
      | (refine CallK.intro (hd) (by simp) (by simp) ?_; try simp )
      | (refine CallG.intro (fun _ => hd) (by simp) (by simp) ?_; try simp )
      | ((with_reducible refine PreK.intro ?_ ?_); (next => (first | omega | (intros; first | omega | (refine ⟨by omega, ?_⟩; repeat (first | assumption | constructor)) | assumption))); intro _; try simp )
      | fail)
    simp [WinnerR, h1]
theorem rWinner_c (s : List Rule) (w gs : List Int) (hs : Sys.small s) (hw : w.length ≤ 1000) (hgl : gs.length ≤ 1000) :
    CallP Try.prog 35 [rulesV s, ints w, ints gs] (.tup [choiceV (WinnerR s w gs).1, bv (WinnerR s w gs).2.1, iv (WinnerR s w gs).2.2]) := by
  refine C35 (by simp) ?_
  have hck := rall_c s w gs hs hw hgl
  simp [A35]
  try simp 
  repeat' (first
    | (refine CallX.pure (hck) (by simp) (by simp) ?_; try simp )
    | (refine CallK.intro (hck) (by simp) (by simp) ?_; try simp )
    | (refine CallG.intro (fun _ => hck) (by simp) (by simp) ?_; try simp )
    | ((with_reducible refine PreK.intro ?_ ?_); (next => (first | omega | (intros; first | omega | (refine ⟨by omega, ?_⟩; repeat (first | assumption | constructor)) | assumption))); intro _; try simp )
    | fail)
  refine CondK.intro (fun h1 => ?_) (fun h1 => ?_)
  · simp at h1
    simp [WinnerR, h1]
  · simp at h1
    have hd := winner_c s w gs hs hw (gErr_ok (orderErr_zero h1).2) hgl
    try simp 
    repeat' (first
      | (refine CallX.pure (hd) (by simp) (by simp) ?_; try simp )
      | (refine CallK.intro (hd) (by simp) (by simp) ?_; try simp )
      | (refine CallG.intro (fun _ => hd) (by simp) (by simp) ?_; try simp )
      | ((with_reducible refine PreK.intro ?_ ?_); (next => (first | omega | (intros; first | omega | (refine ⟨by omega, ?_⟩; repeat (first | assumption | constructor)) | assumption))); intro _; try simp )
      | fail)
    simp [WinnerR, h1]
theorem IsClear_c (s : List Rule) (w gs : List Int) (hs : Sys.small s) (hw : w.length ≤ 1000) (hgl : gs.length ≤ 1000) :
    CallP Try.prog 36 [rulesV s, ints w, ints gs] (.tup [bv (ClearR s w gs).1, iv (ClearR s w gs).2]) := by
  refine C36 (by simp) ?_
  have hck := ocheck_c s w [gs] hs hw (by simp) (by simpa using hgl)
  rw [ocheck_one] at hck
  have hcd := candidates_c s w hs hw
  have hok : ∀ x ∈ stepsM s w, stepOK s x := stepsM_ok
  have hlen : (stepsM s w).length ≤ 54 := stepsM_len
  simp [A36]
  try simp 
  repeat' (first
    | (refine CallX.pure (hck) (by simp) (by simp) ?_; try simp )
    | (refine CallK.intro (hck) (by simp) (by simp) ?_; try simp )
    | (refine CallG.intro (fun _ => hck) (by simp) (by simp) ?_; try simp )
    | ((with_reducible refine PreK.intro ?_ ?_); (next => (first | omega | (intros; first | omega | (refine ⟨by omega, ?_⟩; repeat (first | assumption | constructor)) | assumption))); intro _; try simp )
    | fail)
  refine CondK.intro (fun h1 => ?_) (fun h1 => ?_)
  · simp at h1
    simp [ClearR, h1]
  · simp at h1
    have hR : ClearR s w gs = (clearM s w gs, 0) := by simp [ClearR, h1]
    rw [hR]
    generalize hR2 : clearM s w gs = R
    unfold clearM at hR2
    generalize stepsM s w = l at hcd hok hlen hR2
    try simp 
    repeat' (first
      | (refine CallX.pure (hcd) (by simp) (by simp) ?_; try simp )
      | (refine CallK.intro (hcd) (by simp) (by simp) ?_; try simp )
      | (refine CallG.intro (fun _ => hcd) (by simp) (by simp) ?_; try simp )
      | ((with_reducible refine PreK.intro ?_ ?_); (next => (first | omega | (intros; first | omega | (refine ⟨by omega, ?_⟩; repeat (first | assumption | constructor)) | assumption))); intro _; try simp )
      | fail)
    match l with
    | [] =>
      dsimp only at hR2
      subst hR2
      refine CondK.intro (fun h2 => ?_) (fun h2 => ?_)
      · try simp 
        repeat' (first
          | ((with_reducible refine PreK.intro ?_ ?_); (next => (first | omega | (intros; first | omega | (refine ⟨by omega, ?_⟩; repeat (first | assumption | constructor)) | assumption))); intro _; try simp )
          | fail)
      · simp at h2
    | x :: xs =>
      have hch := champion_c s w gs x xs hs hw (gErr_ok (orderErr_zero h1).2) hgl (by simp at hlen; omega) hok
      dsimp only at hR2
      rw [bestM_champ] at hR2
      refine CondK.intro (fun h2 => ?_) (fun h2 => ?_)
      · exfalso; simp at h2
      · by_cases ht : topOf s w gs (x :: xs) (champ s w gs x xs) = true
        · rw [if_pos ht] at hR2
          simp only [ht, if_true] at hch
          simp at hR2
          try simp 
          repeat' (first
            | (refine CallX.pure (hch) (by simp) (by simp) ?_; try simp )
            | (refine CallK.intro (hch) (by simp) (by simp) ?_; try simp )
            | (refine CallG.intro (fun _ => hch) (by simp) (by simp) ?_; try simp )
            | ((with_reducible refine PreK.intro ?_ ?_); (next => (first | omega | (intros; first | omega | (refine ⟨by omega, ?_⟩; repeat (first | assumption | constructor)) | assumption))); intro _; try simp )
            | fail)
          simp [hR2]
        · rw [if_neg ht] at hR2
          have ht' : topOf s w gs (x :: xs) (champ s w gs x xs) = false := by simpa using ht
          simp only [ht'] at hch
          simp at hR2 hch
          try simp 
          repeat' (first
            | (refine CallX.pure (hch) (by simp) (by simp) ?_; try simp )
            | (refine CallK.intro (hch) (by simp) (by simp) ?_; try simp )
            | (refine CallG.intro (fun _ => hch) (by simp) (by simp) ?_; try simp )
            | ((with_reducible refine PreK.intro ?_ ?_); (next => (first | omega | (intros; first | omega | (refine ⟨by omega, ?_⟩; repeat (first | assumption | constructor)) | assumption))); intro _; try simp )
            | fail)
          simp [hR2]
theorem rIsClear_c (s : List Rule) (w gs : List Int) (hs : Sys.small s) (hw : w.length ≤ 1000) (hgl : gs.length ≤ 1000) :
    CallP Try.prog 37 [rulesV s, ints w, ints gs] (.tup [bv (ClearR s w gs).1, iv (ClearR s w gs).2]) := by
  refine C37 (by simp) ?_
  have hck := rall_c s w gs hs hw hgl
  have hcd := rcandidates_c s w hs hw
  have hok : ∀ x ∈ stepsM s w, stepOK s x := stepsM_ok
  have hlen : (stepsM s w).length ≤ 54 := stepsM_len
  have hnd := stepsM_nodup s w
  simp [A37]
  try simp 
  repeat' (first
    | (refine CallX.pure (hck) (by simp) (by simp) ?_; try simp )
    | (refine CallK.intro (hck) (by simp) (by simp) ?_; try simp )
    | (refine CallG.intro (fun _ => hck) (by simp) (by simp) ?_; try simp )
    | ((with_reducible refine PreK.intro ?_ ?_); (next => (first | omega | (intros; first | omega | (refine ⟨by omega, ?_⟩; repeat (first | assumption | constructor)) | assumption))); intro _; try simp )
    | fail)
  refine CondK.intro (fun h1 => ?_) (fun h1 => ?_)
  · simp at h1
    simp [ClearR, h1]
  · simp at h1
    have hR : ClearR s w gs = (clearM s w gs, 0) := by simp [ClearR, h1]
    rw [hR]
    generalize hR2 : clearM s w gs = R
    unfold clearM at hR2
    generalize stepsM s w = l at hcd hok hlen hnd hR2
    have hbest := rbest_c s w gs l hs hw (gErr_ok (orderErr_zero h1).2) hgl (by omega) hok hnd
    try simp 
    repeat' (first
      | (refine CallX.pure (hcd) (by simp) (by simp) ?_; try simp )
      | (refine CallK.intro (hcd) (by simp) (by simp) ?_; try simp )
      | (refine CallG.intro (fun _ => hcd) (by simp) (by simp) ?_; try simp )
      | ((with_reducible refine PreK.intro ?_ ?_); (next => (first | omega | (intros; first | omega | (refine ⟨by omega, ?_⟩; repeat (first | assumption | constructor)) | assumption))); intro _; try simp )
      | fail)
    have hcl : (decide ((l.length : Int) < 2) || decide (0 ≤ idxG (topOf s w gs l) 0 l)) = R := by
      rw [idxG_any]
      subst hR2
      match l with
      | [] => simp
      | [x] => simp [bestM, topOf]
      | x :: y :: r =>
        have e : (bestM s w gs (x :: y :: r)).isSome = (x :: y :: r).any (topOf s w gs (x :: y :: r)) := by
          rw [Bool.eq_iff_iff, bestM, List.find?_isSome, List.any_eq_true]
        have e2 : decide (((x :: y :: r).length : Int) < 2) = false := by simp; omega
        rw [e2, Bool.false_or]
        exact e.symm
    try simp 
    repeat' (first
      | (refine CallX.pure (hbest) (by simp) (by simp) ?_; try simp )
      | (refine CallK.intro (hbest) (by simp) (by simp) ?_; try simp )
      | (refine CallG.intro (fun _ => hbest) (by simp) (by simp) ?_; try simp )
      | ((with_reducible refine PreK.intro ?_ ?_); (next => (first | omega | (intros; first | omega | (refine ⟨by omega, ?_⟩; repeat (first | assumption | constructor)) | assumption))); intro _; try simp )
      | fail)
    rw [← hcl]
theorem lawOrderWinners_c (x : Case) (h : x.rules.length ≤ big) : CallP Try.prog 4 [caseV x] (bv true) := by
  refine C4 (by simp) ?_
  simp [A4]
  refine CallX.pure (by simpa using Long_c x h) (by simp) (by simp) ?_
  try simp 
  refine CondK.intro (fun h1 => ?_) (fun h1 => ?_)
  · try simp 
    repeat' (first
      | (refine CallX.pure (sane_c) (by simp) (by simp) ?_; try simp )
      | (refine CallK.intro (sane_c) (by simp) (by simp) ?_; try simp )
      | (refine CallG.intro (fun _ => sane_c) (by simp) (by simp) ?_; try simp )
      | ((with_reducible refine PreK.intro ?_ ?_); (next => (first | omega | (intros; first | omega | (refine ⟨by omega, ?_⟩; repeat (first | assumption | constructor)) | assumption))); intro _; try simp )
      | fail)
  · try simp at h1
    obtain ⟨hs, hw, hg, _⟩ := longC_small h1
    try simp 
    repeat' (first
      | (refine CallX.pure (Winner_c x.rules x.word x.grounds hs hw hg) (by simp) (by simp) ?_; try simp )
      | (refine CallK.intro (Winner_c x.rules x.word x.grounds hs hw hg) (by simp) (by simp) ?_; try simp )
      | (refine CallG.intro (fun _ => Winner_c x.rules x.word x.grounds hs hw hg) (by simp) (by simp) ?_; try simp )
      | ((with_reducible refine PreK.intro ?_ ?_); (next => (first | omega | (intros; first | omega | (refine ⟨by omega, ?_⟩; repeat (first | assumption | constructor)) | assumption))); intro _; try simp )
      | fail)
    try simp 
    repeat' (first
      | (refine CallX.pure (rWinner_c x.rules x.word x.grounds hs hw hg) (by simp) (by simp) ?_; try simp )
      | (refine CallK.intro (rWinner_c x.rules x.word x.grounds hs hw hg) (by simp) (by simp) ?_; try simp )
      | (refine CallG.intro (fun _ => rWinner_c x.rules x.word x.grounds hs hw hg) (by simp) (by simp) ?_; try simp )
      | ((with_reducible refine PreK.intro ?_ ?_); (next => (first | omega | (intros; first | omega | (refine ⟨by omega, ?_⟩; repeat (first | assumption | constructor)) | assumption))); intro _; try simp )
      | fail)
    try simp 
    repeat' (first
      | (refine CallX.pure (IsClear_c x.rules x.word x.grounds hs hw hg) (by simp) (by simp) ?_; try simp )
      | (refine CallK.intro (IsClear_c x.rules x.word x.grounds hs hw hg) (by simp) (by simp) ?_; try simp )
      | (refine CallG.intro (fun _ => IsClear_c x.rules x.word x.grounds hs hw hg) (by simp) (by simp) ?_; try simp )
      | ((with_reducible refine PreK.intro ?_ ?_); (next => (first | omega | (intros; first | omega | (refine ⟨by omega, ?_⟩; repeat (first | assumption | constructor)) | assumption))); intro _; try simp )
      | fail)
    try simp 
    repeat' (first
      | (refine CallX.pure (rIsClear_c x.rules x.word x.grounds hs hw hg) (by simp) (by simp) ?_; try simp )
      | (refine CallK.intro (rIsClear_c x.rules x.word x.grounds hs hw hg) (by simp) (by simp) ?_; try simp )
      | (refine CallG.intro (fun _ => rIsClear_c x.rules x.word x.grounds hs hw hg) (by simp) (by simp) ?_; try simp )
      | ((with_reducible refine PreK.intro ?_ ?_); (next => (first | omega | (intros; first | omega | (refine ⟨by omega, ?_⟩; repeat (first | assumption | constructor)) | assumption))); intro _; try simp )
      | fail)
    try simp 
    repeat' (first
      | (refine CallX.pure (sane_c) (by simp) (by simp) ?_; try simp )
      | (refine CallK.intro (sane_c) (by simp) (by simp) ?_; try simp )
      | (refine CallG.intro (fun _ => sane_c) (by simp) (by simp) ?_; try simp )
      | ((with_reducible refine PreK.intro ?_ ?_); (next => (first | omega | (intros; first | omega | (refine ⟨by omega, ?_⟩; repeat (first | assumption | constructor)) | assumption))); intro _; try simp )
      | fail)
end Go.Proofs.Ytaooenmkofjafaa
end

section
/- Contracts: two steps; Lasts, Decide, Beats. -/
namespace Go.Proofs.Ytaooenmkofjafaa
open Go.Abs Go
set_option maxRecDepth 20000
set_option maxHeartbeats 2000000
attribute [local irreducible] PreK CondK CallK CallG CallX LoopK
attribute [local simp] avsEq avEq akind teq vkind vEq candS_eq

theorem weakL_map {α : Type} (f : α → AV) (h : ∀ x, weak (f x) = f x) : ∀ l : List α, weakL (l.map f) = l.map f
  | [] => rfl
  | x :: l => by simp only [List.map_cons, weakL, h x, weakL_map f h l]
@[simp] theorem weakL_iv (l : List Int) : weakL (l.map iv) = l.map iv := weakL_map iv (fun _ => rfl) l
theorem weak_rule (r : Rule) : weak (ruleV r) = ruleV r := by simp [weak, weakL]
@[simp] theorem weakL_rule (l : List Rule) : weakL (l.map ruleV) = l.map ruleV := weakL_map ruleV weak_rule l
/-- The error of two steps of a word. -/
def twoE (s : List Rule) (w : List Int) (a b : Step) : Int := if a ∈ stepsM s w ∧ b ∈ stepsM s w then (if a = b then 5 else 0) else 4
theorem ocheck0_c (s : List Rule) (w : List Int) (h : Sys.small s) (hw : w.length ≤ 1000) :
    CallP Try.prog 107 [rulesV s, ints w, .seq 1 [] false] (iv (swErr s w)) := by
  have := ocheck_c s w [] h hw (by simp) (by simp)
  have e : ocheckErr s w [] = swErr s w := by
    unfold ocheckErr swErr
    by_cases h : sysErr s = 0
    · by_cases h2 : wordErr w = 0 <;> simp [h, h2, firstG]
    · simp [h]
  rw [e] at this
  exact this
theorem otwo_c (s : List Rule) (w : List Int) (a b : Step) (hs : Sys.small s) (hw : w.length ≤ 1000) :
    CallP Try.prog 118 [rulesV s, ints w, stepV a, stepV b] (.tup [if twoE s w a b = 0 then candS s a else candZ, if twoE s w a b = 0 then candS s b else candZ, iv (twoE s w a b)]) := by
  refine C118 (by simp) ?_
  have hcd := candidates_c s w hs hw
  have hok : ∀ x ∈ stepsM s w, stepOK s x := stepsM_ok
  have hlen : (stepsM s w).length ≤ 54 := stepsM_len
  generalize hR : twoE s w a b = R
  unfold twoE at hR
  simp [A118]
  generalize stepsM s w = l at hcd hok hlen hR
  try simp 
  repeat' (first
    | (refine CallX.pure (hcd) (by simp) (by simp) ?_; try simp )
    | (refine CallK.intro (hcd) (by simp) (by simp) ?_; try simp )
    | (refine CallG.intro (fun _ => hcd) (by simp) (by simp) ?_; try simp )
    | ((with_reducible refine PreK.intro ?_ ?_); (next => (first | omega | (intros; first | omega | (refine ⟨by omega, ?_⟩; repeat (first | assumption | constructor)) | assumption))); intro _; try simp )
    | fail)
  have hct : ∀ x : Step, CallP Try.prog 186 [candsV s l, .fn 187 [] [.ipt (stepV x) 0]] (bv (decide (x ∈ l))) := by
    intro x
    have := cContainsFunc_c s l (by omega) 187 [.ipt (stepV x) 0] (fun y => decide (y = x)) (fun y _ => two1_c ⟨y, el s y.rule.toNat⟩ x) (by intro m; simp) (by simp) (by intro m; simp)
    have e : (l.any fun y => decide (y = x)) = decide (x ∈ l) := by rw [Bool.eq_iff_iff]; simp
    rwa [e] at this
  refine LoopK.by (fun i : Nat => ⟨[(21, iv i), (20, iv 2), (19, .seq 2 [stepV a, stepV b] true), (11, candsV s l), (0, rulesV s), (6, .pt 6 1 0 0), (7, .pt 7 1 0 0), (8, .pt 8 1 0 0), (9, .pt 9 1 0 0)],
      [(6, some ⟨2, [stepV a], 1, true⟩), (7, some ⟨2, [stepV b], 1, true⟩), (8, some ⟨6, [candZ0], 1, true⟩), (9, some ⟨6, [candZ0], 1, true⟩)]⟩) (fun i => 2 - i) (fun i => i = 0 ∨ i = 1 ∧ a ∈ l ∨ i = 2 ∧ a ∈ l ∧ b ∈ l) 0 (by simp) (by simp) ?_
  intro i Q' hi hq he hr
  rcases hi with rfl | ⟨rfl, h1⟩ | ⟨rfl, h1, h2⟩
  · try simp 
    refine CondK.intro (fun h3 => ?_) (fun h3 => ?_)
    · try simp 
      repeat' (first
        | (refine CallX.pure (hct a) (by simp) (by simp) ?_; try simp )
        | (refine CallK.intro (hct a) (by simp) (by simp) ?_; try simp )
        | (refine CallG.intro (fun _ => hct a) (by simp) (by simp) ?_; try simp )
        | ((with_reducible refine PreK.intro ?_ ?_); (next => (first | omega | (intros; first | omega | (refine ⟨by omega, ?_⟩; repeat (first | assumption | constructor)) | assumption))); intro _; try simp )
        | fail)
      refine CondK.intro (fun h4 => ?_) (fun h4 => ?_)
      · simp at h4
        try simp 
        repeat' (first
          | ((with_reducible refine PreK.intro ?_ ?_); (next => (first | omega | (intros; first | omega | (refine ⟨by omega, ?_⟩; repeat (first | assumption | constructor)) | assumption))); intro _; try simp )
          | fail)
        apply hr
        simp [h4] at hR
        subst hR
        try simp 
        repeat' (first
          | ((with_reducible refine PreK.intro ?_ ?_); (next => (first | omega | (intros; first | omega | (refine ⟨by omega, ?_⟩; repeat (first | assumption | constructor)) | assumption))); intro _; try simp )
          | fail)
      · simp at h4
        try simp 
        repeat' (first
          | ((with_reducible refine PreK.intro ?_ ?_); (next => (first | omega | (intros; first | omega | (refine ⟨by omega, ?_⟩; repeat (first | assumption | constructor)) | assumption))); intro _; try simp )
          | fail)
        exact hq 1 _ (by simp [h4]) (by omega) (by simp)
    · simp at h3
  · try simp 
    refine CondK.intro (fun h3 => ?_) (fun h3 => ?_)
    · try simp 
      repeat' (first
        | (refine CallX.pure (hct b) (by simp) (by simp) ?_; try simp )
        | (refine CallK.intro (hct b) (by simp) (by simp) ?_; try simp )
        | (refine CallG.intro (fun _ => hct b) (by simp) (by simp) ?_; try simp )
        | ((with_reducible refine PreK.intro ?_ ?_); (next => (first | omega | (intros; first | omega | (refine ⟨by omega, ?_⟩; repeat (first | assumption | constructor)) | assumption))); intro _; try simp )
        | fail)
      refine CondK.intro (fun h4 => ?_) (fun h4 => ?_)
      · simp at h4
        try simp 
        repeat' (first
          | ((with_reducible refine PreK.intro ?_ ?_); (next => (first | omega | (intros; first | omega | (refine ⟨by omega, ?_⟩; repeat (first | assumption | constructor)) | assumption))); intro _; try simp )
          | fail)
        apply hr
        simp [h4] at hR
        subst hR
        try simp 
        repeat' (first
          | ((with_reducible refine PreK.intro ?_ ?_); (next => (first | omega | (intros; first | omega | (refine ⟨by omega, ?_⟩; repeat (first | assumption | constructor)) | assumption))); intro _; try simp )
          | fail)
      · simp at h4
        try simp 
        repeat' (first
          | ((with_reducible refine PreK.intro ?_ ?_); (next => (first | omega | (intros; first | omega | (refine ⟨by omega, ?_⟩; repeat (first | assumption | constructor)) | assumption))); intro _; try simp )
          | fail)
        exact hq 2 _ (by simp [h1, h4]) (by omega) (by simp)
    · simp at h3
  · try simp 
    refine CondK.intro (fun h3 => ?_) (fun h3 => ?_)
    · simp at h3
    · try simp 
      apply he
      have hcond : (decide (a.rule = b.rule) && decide (a.place = b.place)) = decide (a = b) := by rw [Bool.eq_iff_iff]; simp [step_eq]
      try simp 
      repeat' (first
        | ((with_reducible refine PreK.intro ?_ ?_); (next => (first | omega | (intros; first | omega | (refine ⟨by omega, ?_⟩; repeat (first | assumption | constructor)) | assumption))); intro _; try simp )
        | fail)
      rw [hcond]
      simp [h1, h2] at hR
      refine CondK.intro (fun h4 => ?_) (fun h4 => ?_)
      · simp at h4
        subst h4
        simp at hR
        subst hR
        try simp 
        repeat' (first
          | ((with_reducible refine PreK.intro ?_ ?_); (next => (first | omega | (intros; first | omega | (refine ⟨by omega, ?_⟩; repeat (first | assumption | constructor)) | assumption))); intro _; try simp )
          | fail)
      · simp at h4
        simp [h4] at hR
        have oa := hok a h1
        have ob := hok b h2
        have oa5 : a.rule.toNat < s.length := by have := oa.1; have := oa.2.1; omega
        have ob5 : b.rule.toNat < s.length := by have := ob.1; have := ob.2.1; omega
        obtain ⟨a1, a2, a3, a4⟩ := oa
        obtain ⟨b1, b2, b3, b4⟩ := ob
        subst hR
        try simp [oa5, ob5]
        repeat' (first
          | ((with_reducible refine PreK.intro ?_ ?_); (next => (first | omega | (intros; first | omega | (refine ⟨by omega, ?_⟩; repeat (first | assumption | constructor)) | assumption))); intro _; try simp [oa5, ob5])
          | fail)
theorem rtwo2_c (s : List Rule) (w : List Int) (a b : Step) (hs : Sys.small s) (hw : w.length ≤ 1000) :
    CallP Try.prog 121 [rulesV s, ints w, stepV a, stepV b] (iv (twoE s w a b)) := by
  refine C121 (by simp) ?_
  have hcd := rcandidates_c s w hs hw
  have hlen : (stepsM s w).length ≤ 54 := stepsM_len
  generalize hR : twoE s w a b = R
  unfold twoE at hR
  simp [A121]
  generalize stepsM s w = l at hcd hlen hR
  try simp 
  repeat' (first
    | (refine CallX.pure (hcd) (by simp) (by simp) ?_; try simp )
    | (refine CallK.intro (hcd) (by simp) (by simp) ?_; try simp )
    | (refine CallG.intro (fun _ => hcd) (by simp) (by simp) ?_; try simp )
    | ((with_reducible refine PreK.intro ?_ ?_); (next => (first | omega | (intros; first | omega | (refine ⟨by omega, ?_⟩; repeat (first | assumption | constructor)) | assumption))); intro _; try simp )
    | fail)
  refine LoopK.by (ι := Nat × Bool × Bool) (fun i => ⟨[(11, iv i.1), (10, iv ((if i.2.1 then 1 else 0) + (if i.2.2 then 2 else 0))), (9, stepsV l), (6, .pt 6 1 0 0), (7, .pt 7 1 0 0)], [(6, some ⟨2, [stepV a], 1, true⟩), (7, some ⟨2, [stepV b], 1, true⟩)]⟩) (fun i => l.length - i.1)
    (fun i => i.1 ≤ l.length ∧ (i.2.1 || decide (a ∈ l.drop i.1)) = decide (a ∈ l) ∧ (i.2.2 || decide (b ∈ l.drop i.1)) = decide (b ∈ l)) (0, false, false) (by simp) (by simp) ?_
  intro ⟨i, x, y⟩ Q' ⟨hi, hx, hy⟩ hq he hr
  dsimp only at hi hx hy
  try simp 
  refine CondK.intro (fun h1 => ?_) (fun h1 => ?_)
  · simp at h1
    rw [drop_cons l i h1] at hx hy
    have e1 : (decide ((el l i).rule = a.rule) && decide ((el l i).place = a.place)) = decide (el l i = a) := by rw [Bool.eq_iff_iff]; simp [step_eq]
    have e2 : (decide ((el l i).rule = b.rule) && decide ((el l i).place = b.place)) = decide (el l i = b) := by rw [Bool.eq_iff_iff]; simp [step_eq]
    simp only [List.mem_cons, Bool.decide_or] at hx hy
    simp [h1]
    try simp [h1]
    repeat' (first
      | ((with_reducible refine PreK.intro ?_ ?_); (next => (first | omega | (intros; first | omega | (refine ⟨by omega, ?_⟩; repeat (first | assumption | constructor)) | assumption))); intro _; try simp [h1])
      | fail)
    rw [e1]
    by_cases ha : el l i = a
    · by_cases hb : el l i = b
      · simp [ha] at hx
        simp [hb] at hy
        cases x <;> cases y <;>
        · refine CondK.intro (fun h2 => ?_) (fun h2 => ?_)
          · try simp [h1]
            repeat' (first
              | ((with_reducible refine PreK.intro ?_ ?_); (next => (first | omega | (intros; first | omega | (refine ⟨by omega, ?_⟩; repeat (first | assumption | constructor)) | assumption))); intro _; try simp [h1])
              | fail)
            rw [e2]
            refine CondK.intro (fun h3 => ?_) (fun h3 => ?_)
            · try simp 
              repeat' (first
                | ((with_reducible refine PreK.intro ?_ ?_); (next => (first | omega | (intros; first | omega | (refine ⟨by omega, ?_⟩; repeat (first | assumption | constructor)) | assumption))); intro _; try simp )
                | fail)
              exact hq (i + 1, true, true) _ ⟨by dsimp only; omega, by simpa using hx, by simpa using hy⟩ (by dsimp only; omega) (by simp)
            · simp [hb] at h3
          · simp [ha] at h2
      · simp [ha] at hx
        have hb' : ¬ b = el l i := fun e => hb e.symm
        simp [hb'] at hy
        cases x <;> cases y <;>
        · refine CondK.intro (fun h2 => ?_) (fun h2 => ?_)
          · try simp [h1]
            repeat' (first
              | ((with_reducible refine PreK.intro ?_ ?_); (next => (first | omega | (intros; first | omega | (refine ⟨by omega, ?_⟩; repeat (first | assumption | constructor)) | assumption))); intro _; try simp [h1])
              | fail)
            rw [e2]
            refine CondK.intro (fun h3 => ?_) (fun h3 => ?_)
            · simp [hb] at h3
            · try simp 
              repeat' (first
                | ((with_reducible refine PreK.intro ?_ ?_); (next => (first | omega | (intros; first | omega | (refine ⟨by omega, ?_⟩; repeat (first | assumption | constructor)) | assumption))); intro _; try simp )
                | fail)
              first
              | exact hq (i + 1, true, false) _ ⟨by dsimp only; omega, by simpa using hx, by simpa using hy⟩ (by dsimp only; omega) (by simp)
              | exact hq (i + 1, true, true) _ ⟨by dsimp only; omega, by simpa using hx, by simpa using hy⟩ (by dsimp only; omega) (by simp)
          · simp [ha] at h2
    · have ha' : ¬ a = el l i := fun e => ha e.symm
      simp [ha'] at hx
      by_cases hb : el l i = b
      · simp [hb] at hy
        cases x <;> cases y <;>
        · refine CondK.intro (fun h2 => ?_) (fun h2 => ?_)
          · simp [ha] at h2
          · try simp [h1]
            repeat' (first
              | ((with_reducible refine PreK.intro ?_ ?_); (next => (first | omega | (intros; first | omega | (refine ⟨by omega, ?_⟩; repeat (first | assumption | constructor)) | assumption))); intro _; try simp [h1])
              | fail)
            rw [e2]
            refine CondK.intro (fun h3 => ?_) (fun h3 => ?_)
            · try simp 
              repeat' (first
                | ((with_reducible refine PreK.intro ?_ ?_); (next => (first | omega | (intros; first | omega | (refine ⟨by omega, ?_⟩; repeat (first | assumption | constructor)) | assumption))); intro _; try simp )
                | fail)
              first
              | exact hq (i + 1, false, true) _ ⟨by dsimp only; omega, by simpa using hx, by simpa using hy⟩ (by dsimp only; omega) (by simp)
              | exact hq (i + 1, true, true) _ ⟨by dsimp only; omega, by simpa using hx, by simpa using hy⟩ (by dsimp only; omega) (by simp)
            · simp [hb] at h3
      · have hb' : ¬ b = el l i := fun e => hb e.symm
        simp [hb'] at hy
        refine CondK.intro (fun h2 => ?_) (fun h2 => ?_)
        · simp [ha] at h2
        · try simp [h1]
          repeat' (first
            | ((with_reducible refine PreK.intro ?_ ?_); (next => (first | omega | (intros; first | omega | (refine ⟨by omega, ?_⟩; repeat (first | assumption | constructor)) | assumption))); intro _; try simp [h1])
            | fail)
          rw [e2]
          refine CondK.intro (fun h3 => ?_) (fun h3 => ?_)
          · simp [hb] at h3
          · try simp 
            repeat' (first
              | ((with_reducible refine PreK.intro ?_ ?_); (next => (first | omega | (intros; first | omega | (refine ⟨by omega, ?_⟩; repeat (first | assumption | constructor)) | assumption))); intro _; try simp )
              | fail)
            exact hq (i + 1, x, y) _ ⟨by dsimp only; omega, by simpa using hx, by simpa using hy⟩ (by dsimp only; omega) (by simp)
  · simp at h1
    rw [List.drop_eq_nil_of_le (by omega)] at hx hy
    simp at hx hy
    try simp 
    apply he
    have hcond : (decide (a.rule = b.rule) && decide (a.place = b.place)) = decide (a = b) := by rw [Bool.eq_iff_iff]; simp [step_eq]
    cases x <;> cases y <;> simp at hx hy
    · simp [hx] at hR
      try simp 
      refine CondK.intro (fun h2 => ?_) (fun h2 => ?_)
      · try simp 
        repeat' (first
          | ((with_reducible refine PreK.intro ?_ ?_); (next => (first | omega | (intros; first | omega | (refine ⟨by omega, ?_⟩; repeat (first | assumption | constructor)) | assumption))); intro _; try simp )
          | fail)
        simp [hR]
      · simp at h2
    · simp [hx] at hR
      try simp 
      refine CondK.intro (fun h2 => ?_) (fun h2 => ?_)
      · try simp 
        repeat' (first
          | ((with_reducible refine PreK.intro ?_ ?_); (next => (first | omega | (intros; first | omega | (refine ⟨by omega, ?_⟩; repeat (first | assumption | constructor)) | assumption))); intro _; try simp )
          | fail)
        simp [hR]
      · simp at h2
    · simp [hy] at hR
      try simp 
      refine CondK.intro (fun h2 => ?_) (fun h2 => ?_)
      · try simp 
        repeat' (first
          | ((with_reducible refine PreK.intro ?_ ?_); (next => (first | omega | (intros; first | omega | (refine ⟨by omega, ?_⟩; repeat (first | assumption | constructor)) | assumption))); intro _; try simp )
          | fail)
        simp [hR]
      · simp at h2
    · simp [hx, hy] at hR
      try simp 
      refine CondK.intro (fun h2 => ?_) (fun h2 => ?_)
      · simp at h2
      · try simp 
        repeat' (first
          | ((with_reducible refine PreK.intro ?_ ?_); (next => (first | omega | (intros; first | omega | (refine ⟨by omega, ?_⟩; repeat (first | assumption | constructor)) | assumption))); intro _; try simp )
          | fail)
        rw [hcond]
        refine CondK.intro (fun h3 => ?_) (fun h3 => ?_)
        · simp at h3
          simp [h3] at hR
          try simp 
          repeat' (first
            | ((with_reducible refine PreK.intro ?_ ?_); (next => (first | omega | (intros; first | omega | (refine ⟨by omega, ?_⟩; repeat (first | assumption | constructor)) | assumption))); intro _; try simp )
            | fail)
          simp [hR]
        · simp at h3
          simp [h3] at hR
          try simp 
          repeat' (first
            | ((with_reducible refine PreK.intro ?_ ?_); (next => (first | omega | (intros; first | omega | (refine ⟨by omega, ?_⟩; repeat (first | assumption | constructor)) | assumption))); intro _; try simp )
            | fail)
          simp [hR]
end Go.Proofs.Ytaooenmkofjafaa
end

section
/- Contracts: Lasts, Decide, Beats, and their statements. -/
namespace Go.Proofs.Ytaooenmkofjafaa
open Go.Abs Go
set_option maxRecDepth 20000
set_option maxHeartbeats 2000000
attribute [local irreducible] PreK CondK CallK CallG CallX LoopK
attribute [local simp] avsEq avEq akind teq vkind vEq candS_eq

def LastsR (s : List Rule) (w : List Int) (a b : Step) : Bool × Int :=
  if swErr s w ≠ 0 then (false, swErr s w) else if twoE s w a b ≠ 0 then (false, twoE s w a b) else (lastsM w (el s a.rule.toNat) a (el s b.rule.toNat) b, 0)
def DecideR (s : List Rule) (w : List Int) (g : Int) (a b : Step) : Int × Int :=
  if swErr s w ≠ 0 then (0, swErr s w) else if twoE s w a b ≠ 0 then (0, twoE s w a b) else if g < 1 ∨ 4 < g then (0, 1) else (decideM w g (el s a.rule.toNat) a (el s b.rule.toNat) b, 0)
def BeatsR (s : List Rule) (w gs : List Int) (a b : Step) : Int × Int :=
  if orderErr s w gs ≠ 0 then (0, orderErr s w gs) else if twoE s w a b ≠ 0 then (0, twoE s w a b) else (beatsS s w gs a b, 0)
theorem twoE_zero {s : List Rule} {w : List Int} {a b : Step} (h : twoE s w a b = 0) : stepOK s a ∧ stepOK s b ∧ a ≠ b := by
  unfold twoE at h
  split at h
  · rename_i hm
    split at h
    · cases h
    · rename_i hn; exact ⟨stepsM_ok a hm.1, stepsM_ok b hm.2, hn⟩
  · cases h
theorem Lasts_c (s : List Rule) (w : List Int) (a b : Step) (hs : Sys.small s) (hw : w.length ≤ 1000) :
    CallP Try.prog 40 [rulesV s, ints w, stepV a, stepV b] (.tup [bv (LastsR s w a b).1, iv (LastsR s w a b).2]) := by
  refine C40 (by simp) ?_
  simp [A40]
  try simp 
  repeat' (first
    | (refine CallX.pure (ocheck0_c s w hs hw) (by simp) (by simp) ?_; try simp )
    | (refine CallK.intro (ocheck0_c s w hs hw) (by simp) (by simp) ?_; try simp )
    | (refine CallG.intro (fun _ => ocheck0_c s w hs hw) (by simp) (by simp) ?_; try simp )
    | ((with_reducible refine PreK.intro ?_ ?_); (next => (first | omega | (intros; first | omega | (refine ⟨by omega, ?_⟩; repeat (first | assumption | constructor)) | assumption))); intro _; try simp )
    | fail)
  refine CondK.intro (fun h1 => ?_) (fun h1 => ?_)
  · simp at h1
    simp [LastsR, h1]
  · simp at h1
    have ht := otwo_c s w a b hs hw
    by_cases h2 : twoE s w a b = 0
    · obtain ⟨oa, ob, _⟩ := twoE_zero h2
      simp only [h2, if_true] at ht
      try simp 
      repeat' (first
        | (refine CallX.pure (ht) (by simp) (by simp) ?_; try simp )
        | (refine CallK.intro (ht) (by simp) (by simp) ?_; try simp )
        | (refine CallG.intro (fun _ => ht) (by simp) (by simp) ?_; try simp )
        | ((with_reducible refine PreK.intro ?_ ?_); (next => (first | omega | (intros; first | omega | (refine ⟨by omega, ?_⟩; repeat (first | assumption | constructor)) | assumption))); intro _; try simp )
        | fail)
      refine CondK.intro (fun h3 => ?_) (fun h3 => ?_)
      · simp at h3
      · try simp 
        repeat' (first
          | (refine CallX.pure (lasts_c w ⟨a, el s a.rule.toNat⟩ ⟨b, el s b.rule.toNat⟩ hw (oa.small hs) (ob.small hs)) (by simp) (by simp) ?_; try simp )
          | (refine CallK.intro (lasts_c w ⟨a, el s a.rule.toNat⟩ ⟨b, el s b.rule.toNat⟩ hw (oa.small hs) (ob.small hs)) (by simp) (by simp) ?_; try simp )
          | (refine CallG.intro (fun _ => lasts_c w ⟨a, el s a.rule.toNat⟩ ⟨b, el s b.rule.toNat⟩ hw (oa.small hs) (ob.small hs)) (by simp) (by simp) ?_; try simp )
          | ((with_reducible refine PreK.intro ?_ ?_); (next => (first | omega | (intros; first | omega | (refine ⟨by omega, ?_⟩; repeat (first | assumption | constructor)) | assumption))); intro _; try simp )
          | fail)
        simp [LastsR, h1, h2]
    · simp only [h2, if_false] at ht
      try simp 
      repeat' (first
        | (refine CallX.pure (ht) (by simp) (by simp) ?_; try simp )
        | (refine CallK.intro (ht) (by simp) (by simp) ?_; try simp )
        | (refine CallG.intro (fun _ => ht) (by simp) (by simp) ?_; try simp )
        | ((with_reducible refine PreK.intro ?_ ?_); (next => (first | omega | (intros; first | omega | (refine ⟨by omega, ?_⟩; repeat (first | assumption | constructor)) | assumption))); intro _; try simp )
        | fail)
      refine CondK.intro (fun h3 => ?_) (fun h3 => ?_)
      · try simp 
        repeat' (first
          | ((with_reducible refine PreK.intro ?_ ?_); (next => (first | omega | (intros; first | omega | (refine ⟨by omega, ?_⟩; repeat (first | assumption | constructor)) | assumption))); intro _; try simp )
          | fail)
        simp [LastsR, h1, h2]
      · simp [h2] at h3
theorem rLasts_c (s : List Rule) (w : List Int) (a b : Step) (hs : Sys.small s) (hw : w.length ≤ 1000) :
    CallP Try.prog 41 [rulesV s, ints w, stepV a, stepV b] (.tup [bv (LastsR s w a b).1, iv (LastsR s w a b).2]) := by
  refine C41 (by simp) ?_
  simp [A41]
  try simp 
  repeat' (first
    | (refine CallX.pure (rword_c s w hs hw) (by simp) (by simp) ?_; try simp )
    | (refine CallK.intro (rword_c s w hs hw) (by simp) (by simp) ?_; try simp )
    | (refine CallG.intro (fun _ => rword_c s w hs hw) (by simp) (by simp) ?_; try simp )
    | ((with_reducible refine PreK.intro ?_ ?_); (next => (first | omega | (intros; first | omega | (refine ⟨by omega, ?_⟩; repeat (first | assumption | constructor)) | assumption))); intro _; try simp )
    | fail)
  refine CondK.intro (fun h1 => ?_) (fun h1 => ?_)
  · simp at h1
    simp [LastsR, h1]
  · simp at h1
    try simp 
    repeat' (first
      | (refine CallX.pure (rtwo2_c s w a b hs hw) (by simp) (by simp) ?_; try simp )
      | (refine CallK.intro (rtwo2_c s w a b hs hw) (by simp) (by simp) ?_; try simp )
      | (refine CallG.intro (fun _ => rtwo2_c s w a b hs hw) (by simp) (by simp) ?_; try simp )
      | ((with_reducible refine PreK.intro ?_ ?_); (next => (first | omega | (intros; first | omega | (refine ⟨by omega, ?_⟩; repeat (first | assumption | constructor)) | assumption))); intro _; try simp )
      | fail)
    refine CondK.intro (fun h2 => ?_) (fun h2 => ?_)
    · simp at h2
      simp [LastsR, h1, h2]
    · simp at h2
      obtain ⟨oa, ob, _⟩ := twoE_zero h2
      try simp 
      repeat' (first
        | (refine CallX.pure (rlasts_c s w a b hs hw oa ob) (by simp) (by simp) ?_; try simp )
        | (refine CallK.intro (rlasts_c s w a b hs hw oa ob) (by simp) (by simp) ?_; try simp )
        | (refine CallG.intro (fun _ => rlasts_c s w a b hs hw oa ob) (by simp) (by simp) ?_; try simp )
        | ((with_reducible refine PreK.intro ?_ ?_); (next => (first | omega | (intros; first | omega | (refine ⟨by omega, ?_⟩; repeat (first | assumption | constructor)) | assumption))); intro _; try simp )
        | fail)
      simp [LastsR, h1, h2]
theorem Decide_c (s : List Rule) (w : List Int) (g : Int) (a b : Step) (hs : Sys.small s) (hw : w.length ≤ 1000) :
    CallP Try.prog 44 [rulesV s, ints w, iv g, stepV a, stepV b] (.tup [iv (DecideR s w g a b).1, iv (DecideR s w g a b).2]) := by
  refine C44 (by simp) ?_
  simp [A44]
  try simp 
  repeat' (first
    | (refine CallX.pure (ocheck0_c s w hs hw) (by simp) (by simp) ?_; try simp )
    | (refine CallK.intro (ocheck0_c s w hs hw) (by simp) (by simp) ?_; try simp )
    | (refine CallG.intro (fun _ => ocheck0_c s w hs hw) (by simp) (by simp) ?_; try simp )
    | ((with_reducible refine PreK.intro ?_ ?_); (next => (first | omega | (intros; first | omega | (refine ⟨by omega, ?_⟩; repeat (first | assumption | constructor)) | assumption))); intro _; try simp )
    | fail)
  refine CondK.intro (fun h1 => ?_) (fun h1 => ?_)
  · simp at h1
    simp [DecideR, h1]
  · simp at h1
    have ht := otwo_c s w a b hs hw
    by_cases h2 : twoE s w a b = 0
    · obtain ⟨oa, ob, _⟩ := twoE_zero h2
      simp only [h2, if_true] at ht
      try simp 
      repeat' (first
        | (refine CallX.pure (ht) (by simp) (by simp) ?_; try simp )
        | (refine CallK.intro (ht) (by simp) (by simp) ?_; try simp )
        | (refine CallG.intro (fun _ => ht) (by simp) (by simp) ?_; try simp )
        | ((with_reducible refine PreK.intro ?_ ?_); (next => (first | omega | (intros; first | omega | (refine ⟨by omega, ?_⟩; repeat (first | assumption | constructor)) | assumption))); intro _; try simp )
        | fail)
      refine CondK.intro (fun h3 => ?_) (fun h3 => ?_)
      · simp at h3
      · try simp 
        repeat' (first
          | ((with_reducible refine PreK.intro ?_ ?_); (next => (first | omega | (intros; first | omega | (refine ⟨by omega, ?_⟩; repeat (first | assumption | constructor)) | assumption))); intro _; try simp )
          | fail)
        have e : (decide (g < 1) || decide (4 < g)) = decide (g < 1 ∨ 4 < g) := by rw [Bool.eq_iff_iff]; simp
        try rw [e]
        refine CondK.intro (fun h4 => ?_) (fun h4 => ?_)
        · simp at h4
          try simp 
          repeat' (first
            | ((with_reducible refine PreK.intro ?_ ?_); (next => (first | omega | (intros; first | omega | (refine ⟨by omega, ?_⟩; repeat (first | assumption | constructor)) | assumption))); intro _; try simp )
            | fail)
          simp [DecideR, h1, h2, h4]
        · simp at h4
          have hg : g = 1 ∨ g = 2 ∨ g = 3 ∨ g = 4 := by omega
          try simp 
          repeat' (first
            | (refine CallX.pure (decide_c w g ⟨a, el s a.rule.toNat⟩ ⟨b, el s b.rule.toNat⟩ hw (oa.small hs) (ob.small hs) hg) (by simp) (by simp) ?_; try simp )
            | (refine CallK.intro (decide_c w g ⟨a, el s a.rule.toNat⟩ ⟨b, el s b.rule.toNat⟩ hw (oa.small hs) (ob.small hs) hg) (by simp) (by simp) ?_; try simp )
            | (refine CallG.intro (fun _ => decide_c w g ⟨a, el s a.rule.toNat⟩ ⟨b, el s b.rule.toNat⟩ hw (oa.small hs) (ob.small hs) hg) (by simp) (by simp) ?_; try simp )
            | ((with_reducible refine PreK.intro ?_ ?_); (next => (first | omega | (intros; first | omega | (refine ⟨by omega, ?_⟩; repeat (first | assumption | constructor)) | assumption))); intro _; try simp )
            | fail)
          have h5 : ¬ (g < 1 ∨ 4 < g) := by omega
          simp [DecideR, h1, h2, h5]
    · simp only [h2, if_false] at ht
      try simp 
      repeat' (first
        | (refine CallX.pure (ht) (by simp) (by simp) ?_; try simp )
        | (refine CallK.intro (ht) (by simp) (by simp) ?_; try simp )
        | (refine CallG.intro (fun _ => ht) (by simp) (by simp) ?_; try simp )
        | ((with_reducible refine PreK.intro ?_ ?_); (next => (first | omega | (intros; first | omega | (refine ⟨by omega, ?_⟩; repeat (first | assumption | constructor)) | assumption))); intro _; try simp )
        | fail)
      refine CondK.intro (fun h3 => ?_) (fun h3 => ?_)
      · try simp 
        repeat' (first
          | ((with_reducible refine PreK.intro ?_ ?_); (next => (first | omega | (intros; first | omega | (refine ⟨by omega, ?_⟩; repeat (first | assumption | constructor)) | assumption))); intro _; try simp )
          | fail)
        simp [DecideR, h1, h2]
      · simp [h2] at h3
theorem rDecide_c (s : List Rule) (w : List Int) (g : Int) (a b : Step) (hs : Sys.small s) (hw : w.length ≤ 1000) :
    CallP Try.prog 45 [rulesV s, ints w, iv g, stepV a, stepV b] (.tup [iv (DecideR s w g a b).1, iv (DecideR s w g a b).2]) := by
  refine C45 (by simp) ?_
  simp [A45]
  try simp 
  repeat' (first
    | (refine CallX.pure (rword_c s w hs hw) (by simp) (by simp) ?_; try simp )
    | (refine CallK.intro (rword_c s w hs hw) (by simp) (by simp) ?_; try simp )
    | (refine CallG.intro (fun _ => rword_c s w hs hw) (by simp) (by simp) ?_; try simp )
    | ((with_reducible refine PreK.intro ?_ ?_); (next => (first | omega | (intros; first | omega | (refine ⟨by omega, ?_⟩; repeat (first | assumption | constructor)) | assumption))); intro _; try simp )
    | fail)
  refine CondK.intro (fun h1 => ?_) (fun h1 => ?_)
  · simp at h1
    simp [DecideR, h1]
  · simp at h1
    try simp 
    repeat' (first
      | (refine CallX.pure (rtwo2_c s w a b hs hw) (by simp) (by simp) ?_; try simp )
      | (refine CallK.intro (rtwo2_c s w a b hs hw) (by simp) (by simp) ?_; try simp )
      | (refine CallG.intro (fun _ => rtwo2_c s w a b hs hw) (by simp) (by simp) ?_; try simp )
      | ((with_reducible refine PreK.intro ?_ ?_); (next => (first | omega | (intros; first | omega | (refine ⟨by omega, ?_⟩; repeat (first | assumption | constructor)) | assumption))); intro _; try simp )
      | fail)
    refine CondK.intro (fun h2 => ?_) (fun h2 => ?_)
    · simp at h2
      simp [DecideR, h1, h2]
    · simp at h2
      obtain ⟨oa, ob, _⟩ := twoE_zero h2
      try simp 
      repeat' (first
        | ((with_reducible refine PreK.intro ?_ ?_); (next => (first | omega | (intros; first | omega | (refine ⟨by omega, ?_⟩; repeat (first | assumption | constructor)) | assumption))); intro _; try simp )
        | fail)
      have e : (decide (g < 1) || decide (4 < g)) = decide (g < 1 ∨ 4 < g) := by rw [Bool.eq_iff_iff]; simp
      try rw [e]
      refine CondK.intro (fun h4 => ?_) (fun h4 => ?_)
      · simp at h4
        try simp 
        repeat' (first
          | ((with_reducible refine PreK.intro ?_ ?_); (next => (first | omega | (intros; first | omega | (refine ⟨by omega, ?_⟩; repeat (first | assumption | constructor)) | assumption))); intro _; try simp )
          | fail)
        simp [DecideR, h1, h2, h4]
      · simp at h4
        try simp 
        repeat' (first
          | (refine CallX.pure (rdecide_c s w g a b hs hw oa ob) (by simp) (by simp) ?_; try simp )
          | (refine CallK.intro (rdecide_c s w g a b hs hw oa ob) (by simp) (by simp) ?_; try simp )
          | (refine CallG.intro (fun _ => rdecide_c s w g a b hs hw oa ob) (by simp) (by simp) ?_; try simp )
          | ((with_reducible refine PreK.intro ?_ ?_); (next => (first | omega | (intros; first | omega | (refine ⟨by omega, ?_⟩; repeat (first | assumption | constructor)) | assumption))); intro _; try simp )
          | fail)
        have h5 : ¬ (g < 1 ∨ 4 < g) := by omega
        simp [DecideR, h1, h2, h5]
theorem Beats_c (s : List Rule) (w gs : List Int) (a b : Step) (hs : Sys.small s) (hw : w.length ≤ 1000) (hgl : gs.length ≤ 1000) :
    CallP Try.prog 42 [rulesV s, ints w, ints gs, stepV a, stepV b] (.tup [iv (BeatsR s w gs a b).1, iv (BeatsR s w gs a b).2]) := by
  refine C42 (by simp) ?_
  have hck := ocheck_c s w [gs] hs hw (by simp) (by simpa using hgl)
  rw [ocheck_one] at hck
  simp [A42]
  try simp 
  repeat' (first
    | (refine CallX.pure (hck) (by simp) (by simp) ?_; try simp )
    | (refine CallK.intro (hck) (by simp) (by simp) ?_; try simp )
    | (refine CallG.intro (fun _ => hck) (by simp) (by simp) ?_; try simp )
    | ((with_reducible refine PreK.intro ?_ ?_); (next => (first | omega | (intros; first | omega | (refine ⟨by omega, ?_⟩; repeat (first | assumption | constructor)) | assumption))); intro _; try simp )
    | fail)
  refine CondK.intro (fun h1 => ?_) (fun h1 => ?_)
  · simp at h1
    simp [BeatsR, h1]
  · simp at h1
    have ht := otwo_c s w a b hs hw
    by_cases h2 : twoE s w a b = 0
    · obtain ⟨oa, ob, _⟩ := twoE_zero h2
      simp only [h2, if_true] at ht
      try simp 
      repeat' (first
        | (refine CallX.pure (ht) (by simp) (by simp) ?_; try simp )
        | (refine CallK.intro (ht) (by simp) (by simp) ?_; try simp )
        | (refine CallG.intro (fun _ => ht) (by simp) (by simp) ?_; try simp )
        | ((with_reducible refine PreK.intro ?_ ?_); (next => (first | omega | (intros; first | omega | (refine ⟨by omega, ?_⟩; repeat (first | assumption | constructor)) | assumption))); intro _; try simp )
        | fail)
      refine CondK.intro (fun h3 => ?_) (fun h3 => ?_)
      · simp at h3
      · try simp 
        repeat' (first
          | (refine CallX.pure (beats_c w gs ⟨a, el s a.rule.toNat⟩ ⟨b, el s b.rule.toNat⟩ hw (gErr_ok (orderErr_zero h1).2) hgl (oa.small hs) (ob.small hs)) (by simp) (by simp) ?_; try simp )
          | (refine CallK.intro (beats_c w gs ⟨a, el s a.rule.toNat⟩ ⟨b, el s b.rule.toNat⟩ hw (gErr_ok (orderErr_zero h1).2) hgl (oa.small hs) (ob.small hs)) (by simp) (by simp) ?_; try simp )
          | (refine CallG.intro (fun _ => beats_c w gs ⟨a, el s a.rule.toNat⟩ ⟨b, el s b.rule.toNat⟩ hw (gErr_ok (orderErr_zero h1).2) hgl (oa.small hs) (ob.small hs)) (by simp) (by simp) ?_; try simp )
          | ((with_reducible refine PreK.intro ?_ ?_); (next => (first | omega | (intros; first | omega | (refine ⟨by omega, ?_⟩; repeat (first | assumption | constructor)) | assumption))); intro _; try simp )
          | fail)
        simp [BeatsR, h1, h2, beatsS]
    · simp only [h2, if_false] at ht
      try simp 
      repeat' (first
        | (refine CallX.pure (ht) (by simp) (by simp) ?_; try simp )
        | (refine CallK.intro (ht) (by simp) (by simp) ?_; try simp )
        | (refine CallG.intro (fun _ => ht) (by simp) (by simp) ?_; try simp )
        | ((with_reducible refine PreK.intro ?_ ?_); (next => (first | omega | (intros; first | omega | (refine ⟨by omega, ?_⟩; repeat (first | assumption | constructor)) | assumption))); intro _; try simp )
        | fail)
      refine CondK.intro (fun h3 => ?_) (fun h3 => ?_)
      · try simp 
        repeat' (first
          | ((with_reducible refine PreK.intro ?_ ?_); (next => (first | omega | (intros; first | omega | (refine ⟨by omega, ?_⟩; repeat (first | assumption | constructor)) | assumption))); intro _; try simp )
          | fail)
        simp [BeatsR, h1, h2]
      · simp [h2] at h3
theorem rBeats_c (s : List Rule) (w gs : List Int) (a b : Step) (hs : Sys.small s) (hw : w.length ≤ 1000) (hgl : gs.length ≤ 1000) :
    CallP Try.prog 43 [rulesV s, ints w, ints gs, stepV a, stepV b] (.tup [iv (BeatsR s w gs a b).1, iv (BeatsR s w gs a b).2]) := by
  refine C43 (by simp) ?_
  simp [A43]
  try simp 
  repeat' (first
    | (refine CallX.pure (rall_c s w gs hs hw hgl) (by simp) (by simp) ?_; try simp )
    | (refine CallK.intro (rall_c s w gs hs hw hgl) (by simp) (by simp) ?_; try simp )
    | (refine CallG.intro (fun _ => rall_c s w gs hs hw hgl) (by simp) (by simp) ?_; try simp )
    | ((with_reducible refine PreK.intro ?_ ?_); (next => (first | omega | (intros; first | omega | (refine ⟨by omega, ?_⟩; repeat (first | assumption | constructor)) | assumption))); intro _; try simp )
    | fail)
  refine CondK.intro (fun h1 => ?_) (fun h1 => ?_)
  · simp at h1
    simp [BeatsR, h1]
  · simp at h1
    try simp 
    repeat' (first
      | (refine CallX.pure (rtwo2_c s w a b hs hw) (by simp) (by simp) ?_; try simp )
      | (refine CallK.intro (rtwo2_c s w a b hs hw) (by simp) (by simp) ?_; try simp )
      | (refine CallG.intro (fun _ => rtwo2_c s w a b hs hw) (by simp) (by simp) ?_; try simp )
      | ((with_reducible refine PreK.intro ?_ ?_); (next => (first | omega | (intros; first | omega | (refine ⟨by omega, ?_⟩; repeat (first | assumption | constructor)) | assumption))); intro _; try simp )
      | fail)
    refine CondK.intro (fun h2 => ?_) (fun h2 => ?_)
    · simp at h2
      simp [BeatsR, h1, h2]
    · simp at h2
      obtain ⟨oa, ob, _⟩ := twoE_zero h2
      try simp 
      repeat' (first
        | (refine CallX.pure (rbeats_c s w gs a b hs hw (gErr_ok (orderErr_zero h1).2) hgl oa ob) (by simp) (by simp) ?_; try simp )
        | (refine CallK.intro (rbeats_c s w gs a b hs hw (gErr_ok (orderErr_zero h1).2) hgl oa ob) (by simp) (by simp) ?_; try simp )
        | (refine CallG.intro (fun _ => rbeats_c s w gs a b hs hw (gErr_ok (orderErr_zero h1).2) hgl oa ob) (by simp) (by simp) ?_; try simp )
        | ((with_reducible refine PreK.intro ?_ ?_); (next => (first | omega | (intros; first | omega | (refine ⟨by omega, ?_⟩; repeat (first | assumption | constructor)) | assumption))); intro _; try simp )
        | fail)
      simp [BeatsR, h1, h2]
/-- Two steps. -/
@[simp] def twoV (p : Step × Step) : AV := .agg [iv p.1.rule, iv p.1.place, iv p.2.rule, iv p.2.place]
theorem lawOrderLasts_c (x : Case) (p : Step × Step) (h : x.rules.length ≤ big) : CallP Try.prog 6 [caseV x, twoV p] (bv true) := by
  refine C6 (by simp) ?_
  simp [A6]
  refine CallX.pure (by simpa using Long_c x h) (by simp) (by simp) ?_
  try simp 
  refine CondK.intro (fun h1 => ?_) (fun h1 => ?_)
  · try simp 
    repeat' (first
      | (refine CallX.pure (sane_c) (by simp) (by simp) ?_; try simp )
      | (refine CallK.intro (sane_c) (by simp) (by simp) ?_; try simp )
      | (refine CallG.intro (fun _ => sane_c) (by simp) (by simp) ?_; try simp )
      | ((with_reducible refine PreK.intro ?_ ?_); (next => (first | omega | (intros; first | omega | (refine ⟨by omega, ?_⟩; repeat (first | assumption | constructor)) | assumption))); intro _; try simp )
      | fail)
  · try simp at h1
    obtain ⟨hs, hw, hg, _⟩ := longC_small h1
    try simp 
    repeat' (first
      | (refine CallX.pure (Lasts_c x.rules x.word p.1 p.2 hs hw) (by simp) (by simp) ?_; try simp )
      | (refine CallK.intro (Lasts_c x.rules x.word p.1 p.2 hs hw) (by simp) (by simp) ?_; try simp )
      | (refine CallG.intro (fun _ => Lasts_c x.rules x.word p.1 p.2 hs hw) (by simp) (by simp) ?_; try simp )
      | (refine CallX.pure (rLasts_c x.rules x.word p.1 p.2 hs hw) (by simp) (by simp) ?_; try simp )
      | (refine CallK.intro (rLasts_c x.rules x.word p.1 p.2 hs hw) (by simp) (by simp) ?_; try simp )
      | (refine CallG.intro (fun _ => rLasts_c x.rules x.word p.1 p.2 hs hw) (by simp) (by simp) ?_; try simp )
      | (refine CallX.pure (sane_c) (by simp) (by simp) ?_; try simp )
      | (refine CallK.intro (sane_c) (by simp) (by simp) ?_; try simp )
      | (refine CallG.intro (fun _ => sane_c) (by simp) (by simp) ?_; try simp )
      | ((with_reducible refine PreK.intro ?_ ?_); (next => (first | omega | (intros; first | omega | (refine ⟨by omega, ?_⟩; repeat (first | assumption | constructor)) | assumption))); intro _; try simp )
      | fail)
theorem twoE_swap (s : List Rule) (w : List Int) (a b : Step) : twoE s w b a = twoE s w a b := by
  unfold twoE
  by_cases h : a = b
  · subst h; rfl
  · have h' : ¬ b = a := fun e => h e.symm
    simp only [h, h', if_false, And.comm]
theorem DecideR_swap (s : List Rule) (w : List Int) (g : Int) (a b : Step) : DecideR s w g b a = (-(DecideR s w g a b).1, (DecideR s w g a b).2) := by
  unfold DecideR
  rw [twoE_swap]
  split
  · simp
  · split
    · simp
    · split
      · simp
      · simp [decideM_anti w g (el s a.rule.toNat) a]
theorem DecideR_b (s : List Rule) (w : List Int) (g : Int) (a b : Step) : (DecideR s w g a b).1 = 1 ∨ (DecideR s w g a b).1 = -1 ∨ (DecideR s w g a b).1 = 0 := by
  unfold DecideR
  split
  · simp
  · split
    · simp
    · split
      · simp
      · exact decideM_cases _ _ _ _ _ _
theorem lawOrderDecides_c (x : Case) (p : Step × Step) (g : Int) (h : x.rules.length ≤ big) : CallP Try.prog 8 [caseV x, twoV p, iv g] (bv true) := by
  refine C8 (by simp) ?_
  simp [A8]
  refine CallX.pure (by simpa using Long_c x h) (by simp) (by simp) ?_
  try simp 
  refine CondK.intro (fun h1 => ?_) (fun h1 => ?_)
  · try simp 
    repeat' (first
      | (refine CallX.pure (sane_c) (by simp) (by simp) ?_; try simp )
      | (refine CallK.intro (sane_c) (by simp) (by simp) ?_; try simp )
      | (refine CallG.intro (fun _ => sane_c) (by simp) (by simp) ?_; try simp )
      | ((with_reducible refine PreK.intro ?_ ?_); (next => (first | omega | (intros; first | omega | (refine ⟨by omega, ?_⟩; repeat (first | assumption | constructor)) | assumption))); intro _; try simp )
      | fail)
  · try simp at h1
    obtain ⟨hs, hw, hg, _⟩ := longC_small h1
    have hb := DecideR_b x.rules x.word g p.1 p.2
    have hd2 := Decide_c x.rules x.word g p.2 p.1 hs hw
    rw [DecideR_swap] at hd2
    try simp 
    repeat' (first
      | (refine CallX.pure (Decide_c x.rules x.word g p.1 p.2 hs hw) (by simp) (by simp) ?_; try simp )
      | (refine CallK.intro (Decide_c x.rules x.word g p.1 p.2 hs hw) (by simp) (by simp) ?_; try simp )
      | (refine CallG.intro (fun _ => Decide_c x.rules x.word g p.1 p.2 hs hw) (by simp) (by simp) ?_; try simp )
      | (refine CallX.pure (rDecide_c x.rules x.word g p.1 p.2 hs hw) (by simp) (by simp) ?_; try simp )
      | (refine CallK.intro (rDecide_c x.rules x.word g p.1 p.2 hs hw) (by simp) (by simp) ?_; try simp )
      | (refine CallG.intro (fun _ => rDecide_c x.rules x.word g p.1 p.2 hs hw) (by simp) (by simp) ?_; try simp )
      | ((with_reducible refine PreK.intro ?_ ?_); (next => (first | omega | (intros; first | omega | (refine ⟨by omega, ?_⟩; repeat (first | assumption | constructor)) | assumption))); intro _; try simp )
      | fail)
    refine CondK.intro (fun h2 => ?_) (fun h2 => ?_)
    · simp at h2
    · try simp 
      repeat' (first
        | (refine CallX.pure (hd2) (by simp) (by simp) ?_; try simp )
        | (refine CallK.intro (hd2) (by simp) (by simp) ?_; try simp )
        | (refine CallG.intro (fun _ => hd2) (by simp) (by simp) ?_; try simp )
        | (refine CallX.pure (sane_c) (by simp) (by simp) ?_; try simp )
        | (refine CallK.intro (sane_c) (by simp) (by simp) ?_; try simp )
        | (refine CallG.intro (fun _ => sane_c) (by simp) (by simp) ?_; try simp )
        | ((with_reducible refine PreK.intro ?_ ?_); (next => (first | omega | (intros; first | omega | (refine ⟨by omega, ?_⟩; repeat (first | assumption | constructor)) | assumption))); intro _; try simp )
        | fail)
theorem beats_decides {s : List Rule} {w gs : List Int} {a b : Step} (hg : gOK gs) (h : a ≠ b) (h3 : 3 ∈ gs) (h4 : 4 ∈ gs) : beatsS s w gs a b ≠ 0 := by
  unfold beatsS
  have hd : ∃ g ∈ gs, decideM w g (el s a.rule.toNat) a (el s b.rule.toNat) b ≠ 0 := by
    by_cases hp : a.place = b.place
    · have hr : a.rule ≠ b.rule := fun e => h (by rw [step_eq]; exact ⟨e, hp⟩)
      refine ⟨4, h4, ?_⟩
      have : a.rule < b.rule ∨ b.rule < a.rule := by omega
      rcases this with e | e
      · have : ¬ b.rule < a.rule := by omega
        simp [decideM, proM, e, this]
      · simp [decideM, proM, e]
    · refine ⟨3, h3, ?_⟩
      have : a.place < b.place ∨ b.place < a.place := by omega
      rcases this with e | e
      · simp [decideM, proM, e]
      · have : ¬ a.place < b.place := by omega
        simp [decideM, proM, e, this]
  clear h3 h4
  induction gs with
  | nil => obtain ⟨g, hm, _⟩ := hd; cases hm
  | cons g gs ih =>
    unfold beatsM
    split
    · rename_i hn
      have hgg := hg g (by simp)
      have : g ≠ 0 := by omega
      exact Int.mul_ne_zero hn this
    · rename_i hn
      refine ih (fun x hx => hg x (by simp [hx])) ?_
      obtain ⟨g', hm, hd⟩ := hd
      rcases List.mem_cons.1 hm with rfl | hm
      · exact absurd hd hn
      · exact ⟨g', hm, hd⟩
end Go.Proofs.Ytaooenmkofjafaa
end

section
/- Contracts: the statement OrderBeats; CheckDerivation, and the statement OrderChecks. -/
namespace Go.Proofs.Ytaooenmkofjafaa
open Go.Abs Go
set_option maxRecDepth 20000
set_option maxHeartbeats 2000000
attribute [local irreducible] PreK CondK CallK CallG CallX LoopK
attribute [local simp] avsEq avEq akind teq vkind vEq candS_eq

theorem BeatsR_swap (s : List Rule) (w gs : List Int) (a b : Step) : BeatsR s w gs b a = (-(BeatsR s w gs a b).1, (BeatsR s w gs a b).2) := by
  unfold BeatsR
  rw [twoE_swap]
  split
  · simp
  · split
    · simp
    · simp [beatsS_anti s w gs a b]
theorem BeatsR_b (s : List Rule) (w gs : List Int) (a b : Step) : -4 ≤ (BeatsR s w gs a b).1 ∧ (BeatsR s w gs a b).1 ≤ 4 := by
  unfold BeatsR
  split
  · simp
  · split
    · simp
    · rename_i h _
      simp only [ne_eq, Decidable.not_not] at h
      exact beatsM_bound _ _ _ _ _ _ (gErr_ok (orderErr_zero h).2)
theorem BeatsR_zero {s : List Rule} {w gs : List Int} {a b : Step} (h : (BeatsR s w gs a b).2 = 0) (h3 : 3 ∈ gs) (h4 : 4 ∈ gs) : (BeatsR s w gs a b).1 ≠ 0 := by
  unfold BeatsR at h ⊢
  split
  · rename_i h1; simp [h1] at h
  · rename_i h1
    split
    · rename_i h2; simp [h1, h2] at h
    · rename_i h2
      simp only [ne_eq, Decidable.not_not] at h1 h2
      exact beats_decides (gErr_ok (orderErr_zero h1).2) (twoE_zero h2).2.2 h3 h4
theorem lawOrderBeats_c (x : Case) (p : Step × Step) (h : x.rules.length ≤ big) : CallP Try.prog 7 [caseV x, twoV p] (bv true) := by
  refine C7 (by simp) ?_
  simp [A7]
  refine CallX.pure (by simpa using Long_c x h) (by simp) (by simp) ?_
  try simp 
  refine CondK.intro (fun h1 => ?_) (fun h1 => ?_)
  · try simp 
    repeat' (first
      | (refine CallX.pure (sane_c) (by simp) (by simp) ?_; try simp )
      | (refine CallK.intro (sane_c) (by simp) (by simp) ?_; try simp )
      | (refine CallG.intro (fun _ => sane_c) (by simp) (by simp) ?_; try simp )
      | ((with_reducible refine PreK.intro ?_ ?_); (next => (first | omega | (intros; first | omega | (refine ⟨by omega, ?_⟩; repeat (first | assumption | constructor)) | assumption))); intro _; try simp )
      | fail)
  · try simp at h1
    obtain ⟨hs, hw, hg, _⟩ := longC_small h1
    have hB1 := Beats_c x.rules x.word x.grounds p.1 p.2 hs hw hg
    have hB2 := rBeats_c x.rules x.word x.grounds p.1 p.2 hs hw hg
    have hB3 := Beats_c x.rules x.word x.grounds p.2 p.1 hs hw hg
    rw [BeatsR_swap] at hB3
    have hb := BeatsR_b x.rules x.word x.grounds p.1 p.2
    have hz := @BeatsR_zero x.rules x.word x.grounds p.1 p.2
    generalize BeatsR x.rules x.word x.grounds p.1 p.2 = R at hB1 hB2 hB3 hb hz
    obtain ⟨R1, R2⟩ := R
    dsimp only at hB1 hB2 hB3 hb hz
    try simp 
    repeat' (first
      | (refine CallX.pure (hB1) (by simp) (by simp) ?_; try simp )
      | (refine CallK.intro (hB1) (by simp) (by simp) ?_; try simp )
      | (refine CallG.intro (fun _ => hB1) (by simp) (by simp) ?_; try simp )
      | (refine CallX.pure (hB2) (by simp) (by simp) ?_; try simp )
      | (refine CallK.intro (hB2) (by simp) (by simp) ?_; try simp )
      | (refine CallG.intro (fun _ => hB2) (by simp) (by simp) ?_; try simp )
      | ((with_reducible refine PreK.intro ?_ ?_); (next => (first | omega | (intros; first | omega | (refine ⟨by omega, ?_⟩; repeat (first | assumption | constructor)) | assumption))); intro _; try simp )
      | fail)
    refine CondK.intro (fun h2 => ?_) (fun h2 => ?_)
    · simp at h2
    · try simp 
      repeat' (first
        | ((with_reducible refine PreK.intro ?_ ?_); (next => (first | omega | (intros; first | omega | (refine ⟨by omega, ?_⟩; repeat (first | assumption | constructor)) | assumption))); intro _; try simp )
        | fail)
      refine CondK.intro (fun h3 => ?_) (fun h3 => ?_)
      · try simp 
        repeat' (first
          | (refine CallX.pure (sane_c) (by simp) (by simp) ?_; try simp )
          | (refine CallK.intro (sane_c) (by simp) (by simp) ?_; try simp )
          | (refine CallG.intro (fun _ => sane_c) (by simp) (by simp) ?_; try simp )
          | ((with_reducible refine PreK.intro ?_ ?_); (next => (first | omega | (intros; first | omega | (refine ⟨by omega, ?_⟩; repeat (first | assumption | constructor)) | assumption))); intro _; try simp )
          | fail)
      · simp at h3
        try simp 
        repeat' (first
          | (refine CallX.pure (hB3) (by simp) (by simp) ?_; try simp )
          | (refine CallK.intro (hB3) (by simp) (by simp) ?_; try simp )
          | (refine CallG.intro (fun _ => hB3) (by simp) (by simp) ?_; try simp )
          | ((with_reducible refine PreK.intro ?_ ?_); (next => (first | omega | (intros; first | omega | (refine ⟨by omega, ?_⟩; repeat (first | assumption | constructor)) | assumption))); intro _; try simp )
          | fail)
        have hinit : AV.raw (.int .i64 (-R1)) = iv (-R1) := rfl
        refine LoopK.by (ι := Nat × Bool × Bool) (fun i => ⟨[(13, iv i.1), (12, bv i.2.2), (11, bv i.2.1), (10, iv R2), (9, iv (-R1)), (5, iv R1), (2, .pt 2 1 0 0)], [(2, some ⟨3, [caseV x], 1, true⟩)]⟩) (fun i => x.grounds.length - i.1)
          (fun i => i.1 ≤ x.grounds.length ∧ (i.2.1 || (x.grounds.drop i.1).any fun g => decide (g = 3)) = (x.grounds.any fun g => decide (g = 3)) ∧ (i.2.2 || (x.grounds.drop i.1).any fun g => decide (g = 4)) = (x.grounds.any fun g => decide (g = 4))) (0, false, false) (by simp) (by simp) ?_
        intro ⟨i, inn, lat⟩ Q' ⟨hi, hx, hy⟩ hq he hr
        dsimp only at hi hx hy
        try simp 
        refine CondK.intro (fun h4 => ?_) (fun h4 => ?_)
        · simp at h4
          rw [drop_cons x.grounds i h4, List.any_cons] at hx hy
          try simp [h4]
          repeat' (first
            | ((with_reducible refine PreK.intro ?_ ?_); (next => (first | omega | (intros; first | omega | (refine ⟨by omega, ?_⟩; repeat (first | assumption | constructor)) | assumption))); intro _; try simp [h4])
            | fail)
          refine hq (i + 1, inn || decide (el x.grounds i = 3), lat || decide (el x.grounds i = 4)) _ ⟨by dsimp only; omega, by simpa [Bool.or_assoc] using hx, by simpa [Bool.or_assoc] using hy⟩ (by dsimp only; omega) ?_
          cases inn <;> cases lat <;> simp
        · simp at h4
          rw [List.drop_eq_nil_of_le (by omega)] at hx hy
          simp only [List.any_nil, Bool.or_false] at hx hy
          have hfin : (!inn || !lat || !decide (R1 = 0)) = true := by
            cases hi1 : inn
            · simp
            · cases hl1 : lat
              · simp
              · rw [hi1] at hx
                rw [hl1] at hy
                have h5 := hx.symm
                have h6 := hy.symm
                simp only [List.any_eq_true, decide_eq_true_eq] at h5 h6
                obtain ⟨_, hm3, rfl⟩ := h5
                obtain ⟨_, hm4, rfl⟩ := h6
                simp [hz h3 hm3 hm4]
          try simp 
          apply he
          try simp [h3]
          repeat' (first
            | (refine CallX.pure (sane_c) (by simp) (by simp) ?_; try simp [h3])
            | (refine CallK.intro (sane_c) (by simp) (by simp) ?_; try simp [h3])
            | (refine CallG.intro (fun _ => sane_c) (by simp) (by simp) ?_; try simp [h3])
            | ((with_reducible refine PreK.intro ?_ ?_); (next => (first | omega | (intros; first | omega | (refine ⟨by omega, ?_⟩; repeat (first | assumption | constructor)) | assumption))); intro _; try simp [h3])
            | fail)
          simpa using hfin
/-- Whether choices are a derivation's, and where not. -/
def ckM (s : List Rule) (gs : List Int) : List Choice → List Int → Nat → Nat × Int
  | [], w, k => (k, if choiceM s w gs = none then 0 else 7)
  | x :: l, w, k => match choiceM s w gs with
    | none => (k, 7)
    | some c => if c = x then ckM s gs l (nextW s w c) (k + 1) else (k, 7)
def rckM : List Choice → Bool → List Choice → Nat → Nat × Int
  | own, ok, [], k => (k, if own = [] ∧ ok = true then 0 else 7)
  | [], _, _ :: _, k => (k, 7)
  | c :: own, ok, x :: l, k => if c = x then rckM own ok l (k + 1) else (k, 7)
theorem rckM_eq (s : List Rule) (gs : List Int) : ∀ (l : List Choice) (n : Nat) (w : List Int) (k : Nat), l.length ≤ n → rckM (deriveR s gs n w).1 (deriveR s gs n w).2.2 l k = ckM s gs l w k
  | [], n, w, k, _ => by
    cases hc : choiceM s w gs with
    | none => rw [deriveR_none hc]; simp [rckM, ckM, hc]
    | some c =>
      match n with
      | 0 => rw [deriveR_zero hc]; simp [rckM, ckM, hc]
      | n + 1 => rw [deriveR_succ hc]; simp [rckM, ckM, hc]
  | x :: l, n, w, k, h => by
    cases hc : choiceM s w gs with
    | none => rw [deriveR_none hc]; simp [rckM, ckM, hc]
    | some c =>
      match n with
      | 0 => simp at h
      | n + 1 =>
        rw [deriveR_succ hc]
        simp only [rckM, ckM, hc, rckM_eq s gs l n (nextW s w c) (k + 1) (by simpa using h)]
def CheckR (s : List Rule) (w gs : List Int) (l : List Choice) : Int × Int :=
  if orderErr s w gs ≠ 0 then (0, orderErr s w gs) else if 60 < l.length then (0, 3) else ((ckM s gs l w 0).1, (ckM s gs l w 0).2)
theorem Check_c (s : List Rule) (w gs : List Int) (l : List Choice) (hs : Sys.small s) (hw : w.length ≤ 1000) (hgl : gs.length ≤ 1000) (hl : l.length ≤ 1000) :
    CallP Try.prog 38 [rulesV s, ints w, ints gs, choicesV l] (.tup [iv (CheckR s w gs l).1, iv (CheckR s w gs l).2]) := by
  refine C38 (by simp) ?_
  have hck := ocheck_c s w [gs] hs hw (by simp) (by simpa using hgl)
  rw [ocheck_one] at hck
  simp [A38]
  try simp 
  repeat' (first
    | (refine CallX.pure (hck) (by simp) (by simp) ?_; try simp )
    | (refine CallK.intro (hck) (by simp) (by simp) ?_; try simp )
    | (refine CallG.intro (fun _ => hck) (by simp) (by simp) ?_; try simp )
    | ((with_reducible refine PreK.intro ?_ ?_); (next => (first | omega | (intros; first | omega | (refine ⟨by omega, ?_⟩; repeat (first | assumption | constructor)) | assumption))); intro _; try simp )
    | fail)
  refine CondK.intro (fun h1 => ?_) (fun h1 => ?_)
  · simp at h1
    simp [CheckR, h1]
  · simp at h1
    try simp 
    refine CondK.intro (fun h2 => ?_) (fun h2 => ?_)
    · simp at h2
      have h2' : 60 < l.length := by omega
      simp [CheckR, h1, h2']
    · simp at h2
      have h2' : ¬ 60 < l.length := by omega
      have hR : CheckR s w gs l = (((ckM s gs l w 0).1 : Int), (ckM s gs l w 0).2) := by simp [CheckR, h1, h2']
      rw [hR]
      generalize hR2 : ckM s gs l w 0 = R
      have hg := gErr_ok (orderErr_zero h1).2
      try simp 
      repeat' (first
        | ((with_reducible refine PreK.intro ?_ ?_); (next => (first | omega | (intros; first | omega | (refine ⟨by omega, ?_⟩; repeat (first | assumption | constructor)) | assumption))); intro _; try simp )
        | fail)
      refine LoopK.by (ι := Nat × List Int) (fun i => ⟨[(30, iv i.1), (29, iv l.length), (28, choicesV l), (0, rulesV s), (1, ints i.2), (2, ints gs), (3, choicesV l)], []⟩) (fun i => l.length - i.1)
        (fun i => i.1 ≤ l.length ∧ i.2.length ≤ 1000 ∧ ckM s gs (l.drop i.1) i.2 i.1 = R) (0, w) (by simpa using ⟨hw, hR2⟩) (by simp) ?_
      intro ⟨i, v⟩ Q' ⟨hi, hv, hc⟩ hq he hr
      dsimp only at hi hv hc
      have hch := choice_c s v gs hs hv hg hgl
      try simp 
      refine CondK.intro (fun h3 => ?_) (fun h3 => ?_)
      · simp at h3
        rw [drop_cons l i h3, ckM] at hc
        cases hcm : choiceM s v gs with
        | none =>
          rw [hcm] at hch hc
          simp at hch hc
          try simp [h3]
          repeat' (first
            | (refine CallX.pure (hch) (by simp) (by simp) ?_; try simp [h3])
            | (refine CallK.intro (hch) (by simp) (by simp) ?_; try simp [h3])
            | (refine CallG.intro (fun _ => hch) (by simp) (by simp) ?_; try simp [h3])
            | ((with_reducible refine PreK.intro ?_ ?_); (next => (first | omega | (intros; first | omega | (refine ⟨by omega, ?_⟩; repeat (first | assumption | constructor)) | assumption))); intro _; try simp [h3])
            | fail)
          refine CondK.intro (fun h4 => ?_) (fun h4 => ?_)
          · try simp 
            repeat' (first
              | ((with_reducible refine PreK.intro ?_ ?_); (next => (first | omega | (intros; first | omega | (refine ⟨by omega, ?_⟩; repeat (first | assumption | constructor)) | assumption))); intro _; try simp )
              | fail)
            apply hr
            simp [← hc]
          · simp at h4
        | some c =>
          rw [hcm] at hch hc
          simp at hch hc
          have hco := choiceM_ok hcm
          have hap := apply_c s v c hs hv hco.1 hco.2.1
          have hnl := nextW_len s v c
          have hcond : (!decide (c.rule = (el l i).rule) || (!decide (c.place = (el l i).place) || !decide (c.ground = (el l i).ground))) = !decide (c = el l i) := by
            have e1 : decide (c = el l i) = (decide (c.rule = (el l i).rule) && (decide (c.place = (el l i).place) && decide (c.ground = (el l i).ground))) := by rw [Bool.eq_iff_iff]; simp [choice_eq]
            rw [e1]
            simp
          try simp [h3]
          repeat' (first
            | (refine CallX.pure (hch) (by simp) (by simp) ?_; try simp [h3])
            | (refine CallK.intro (hch) (by simp) (by simp) ?_; try simp [h3])
            | (refine CallG.intro (fun _ => hch) (by simp) (by simp) ?_; try simp [h3])
            | ((with_reducible refine PreK.intro ?_ ?_); (next => (first | omega | (intros; first | omega | (refine ⟨by omega, ?_⟩; repeat (first | assumption | constructor)) | assumption))); intro _; try simp [h3])
            | fail)
          rw [hcond]
          refine CondK.intro (fun h4 => ?_) (fun h4 => ?_)
          · simp at h4
            simp [h4] at hc
            try simp 
            repeat' (first
              | ((with_reducible refine PreK.intro ?_ ?_); (next => (first | omega | (intros; first | omega | (refine ⟨by omega, ?_⟩; repeat (first | assumption | constructor)) | assumption))); intro _; try simp )
              | fail)
            apply hr
            simp [← hc]
          · simp at h4
            simp [h4] at hc
            try simp 
            repeat' (first
              | (refine CallX.pure (hap) (by simp) (by simp) ?_; try simp )
              | (refine CallK.intro (hap) (by simp) (by simp) ?_; try simp )
              | (refine CallG.intro (fun _ => hap) (by simp) (by simp) ?_; try simp )
              | ((with_reducible refine PreK.intro ?_ ?_); (next => (first | omega | (intros; first | omega | (refine ⟨by omega, ?_⟩; repeat (first | assumption | constructor)) | assumption))); intro _; try simp )
              | fail)
            exact hq (i + 1, nextW s v c) _ ⟨by dsimp only; omega, by dsimp only; omega, by simpa [h4] using hc⟩ (by dsimp only; omega) (by simp)
      · simp at h3
        have hil : i = l.length := by omega
        subst hil
        rw [List.drop_eq_nil_of_le (by omega), ckM] at hc
        try simp 
        apply he
        cases hcm : choiceM s v gs with
        | none =>
          rw [hcm] at hch hc
          simp at hch hc
          try simp 
          repeat' (first
            | (refine CallX.pure (hch) (by simp) (by simp) ?_; try simp )
            | (refine CallK.intro (hch) (by simp) (by simp) ?_; try simp )
            | (refine CallG.intro (fun _ => hch) (by simp) (by simp) ?_; try simp )
            | ((with_reducible refine PreK.intro ?_ ?_); (next => (first | omega | (intros; first | omega | (refine ⟨by omega, ?_⟩; repeat (first | assumption | constructor)) | assumption))); intro _; try simp )
            | fail)
          refine CondK.intro (fun h4 => ?_) (fun h4 => ?_)
          · simp at h4
          · try simp 
            repeat' (first
              | ((with_reducible refine PreK.intro ?_ ?_); (next => (first | omega | (intros; first | omega | (refine ⟨by omega, ?_⟩; repeat (first | assumption | constructor)) | assumption))); intro _; try simp )
              | fail)
            simp [← hc]
        | some c =>
          rw [hcm] at hch hc
          simp at hch hc
          try simp 
          repeat' (first
            | (refine CallX.pure (hch) (by simp) (by simp) ?_; try simp )
            | (refine CallK.intro (hch) (by simp) (by simp) ?_; try simp )
            | (refine CallG.intro (fun _ => hch) (by simp) (by simp) ?_; try simp )
            | ((with_reducible refine PreK.intro ?_ ?_); (next => (first | omega | (intros; first | omega | (refine ⟨by omega, ?_⟩; repeat (first | assumption | constructor)) | assumption))); intro _; try simp )
            | fail)
          refine CondK.intro (fun h4 => ?_) (fun h4 => ?_)
          · try simp 
            repeat' (first
              | ((with_reducible refine PreK.intro ?_ ?_); (next => (first | omega | (intros; first | omega | (refine ⟨by omega, ?_⟩; repeat (first | assumption | constructor)) | assumption))); intro _; try simp )
              | fail)
            simp [← hc]
          · simp at h4
theorem rCheck_c (s : List Rule) (w gs : List Int) (l : List Choice) (hs : Sys.small s) (hw : w.length ≤ 1000) (hgl : gs.length ≤ 1000) (hl : l.length ≤ 1000) :
    CallP Try.prog 39 [rulesV s, ints w, ints gs, choicesV l] (.tup [iv (CheckR s w gs l).1, iv (CheckR s w gs l).2]) := by
  refine C39 (by simp) ?_
  simp [A39]
  try simp 
  repeat' (first
    | (refine CallX.pure (rall_c s w gs hs hw hgl) (by simp) (by simp) ?_; try simp )
    | (refine CallK.intro (rall_c s w gs hs hw hgl) (by simp) (by simp) ?_; try simp )
    | (refine CallG.intro (fun _ => rall_c s w gs hs hw hgl) (by simp) (by simp) ?_; try simp )
    | ((with_reducible refine PreK.intro ?_ ?_); (next => (first | omega | (intros; first | omega | (refine ⟨by omega, ?_⟩; repeat (first | assumption | constructor)) | assumption))); intro _; try simp )
    | fail)
  refine CondK.intro (fun h1 => ?_) (fun h1 => ?_)
  · simp at h1
    simp [CheckR, h1]
  · simp at h1
    try simp 
    refine CondK.intro (fun h2 => ?_) (fun h2 => ?_)
    · simp at h2
      have h2' : 60 < l.length := by omega
      simp [CheckR, h1, h2']
    · simp at h2
      have h2' : ¬ 60 < l.length := by omega
      have hR : CheckR s w gs l = (((ckM s gs l w 0).1 : Int), (ckM s gs l w 0).2) := by simp [CheckR, h1, h2']
      have hd := rderive_c s w gs hs hw (gErr_ok (orderErr_zero h1).2) hgl
      have hnum := deriveR_num s gs 60 w
      rw [hR, ← rckM_eq s gs l 60 w 0 (by omega)]
      generalize deriveR s gs 60 w = D at hd hnum
      obtain ⟨own, v, ok⟩ := D
      dsimp only at hd hnum
      dsimp only
      generalize hR2 : rckM own ok l 0 = R
      try simp 
      repeat' (first
        | (refine CallX.pure (hd) (by simp) (by simp) ?_; try simp )
        | (refine CallK.intro (hd) (by simp) (by simp) ?_; try simp )
        | (refine CallG.intro (fun _ => hd) (by simp) (by simp) ?_; try simp )
        | ((with_reducible refine PreK.intro ?_ ?_); (next => (first | omega | (intros; first | omega | (refine ⟨by omega, ?_⟩; repeat (first | assumption | constructor)) | assumption))); intro _; try simp )
        | fail)
      refine LoopK.by (fun i : Nat => ⟨[(14, iv i), (13, bv ok), (11, choicesV own), (3, choicesV l)], []⟩) (fun i => l.length - i)
        (fun i => i ≤ l.length ∧ (i ≤ own.length) ∧ rckM (own.drop i) ok (l.drop i) i = R) 0 (by simpa using hR2) (by simp) ?_
      intro i Q' ⟨hi, hio, hc⟩ hq he hr
      try simp 
      refine CondK.intro (fun h3 => ?_) (fun h3 => ?_)
      · simp at h3
        rw [drop_cons l i h3] at hc
        by_cases h4 : i < own.length
        · rw [drop_cons own i h4, rckM] at hc
          have h5 : ¬ own.length ≤ i := by omega
          have hcond : (!decide ((el own i).rule = (el l i).rule) || (!decide ((el own i).place = (el l i).place) || !decide ((el own i).ground = (el l i).ground))) = !decide (el own i = el l i) := by
            have e1 : decide (el own i = el l i) = (decide ((el own i).rule = (el l i).rule) && (decide ((el own i).place = (el l i).place) && decide ((el own i).ground = (el l i).ground))) := by rw [Bool.eq_iff_iff]; simp [choice_eq]
            rw [e1]
            simp
          try simp [h3, h4, h5]
          repeat' (first
            | ((with_reducible refine PreK.intro ?_ ?_); (next => (first | omega | (intros; first | omega | (refine ⟨by omega, ?_⟩; repeat (first | assumption | constructor)) | assumption))); intro _; try simp [h3, h4, h5])
            | fail)
          rw [hcond]
          refine CondK.intro (fun h6 => ?_) (fun h6 => ?_)
          · simp at h6
            simp [h6] at hc
            try simp 
            repeat' (first
              | ((with_reducible refine PreK.intro ?_ ?_); (next => (first | omega | (intros; first | omega | (refine ⟨by omega, ?_⟩; repeat (first | assumption | constructor)) | assumption))); intro _; try simp )
              | fail)
            apply hr
            simp [← hc]
          · simp at h6
            simp [h6] at hc
            try simp 
            repeat' (first
              | ((with_reducible refine PreK.intro ?_ ?_); (next => (first | omega | (intros; first | omega | (refine ⟨by omega, ?_⟩; repeat (first | assumption | constructor)) | assumption))); intro _; try simp )
              | fail)
            exact hq (i + 1) _ ⟨by omega, by omega, hc⟩ (by omega) (by simp)
        · have h5 : i = own.length := by omega
          subst h5
          rw [List.drop_eq_nil_of_le (Nat.le_refl _), rckM] at hc
          try simp [h3, nth_len]
          repeat' (first
            | ((with_reducible refine PreK.intro ?_ ?_); (next => (first | omega | (intros; first | omega | (refine ⟨by omega, ?_⟩; repeat (first | assumption | constructor)) | assumption))); intro _; try simp [h3, nth_len])
            | fail)
          refine CondK.intro (fun h6 => ?_) (fun h6 => ?_)
          · try simp 
            repeat' (first
              | ((with_reducible refine PreK.intro ?_ ?_); (next => (first | omega | (intros; first | omega | (refine ⟨by omega, ?_⟩; repeat (first | assumption | constructor)) | assumption))); intro _; try simp )
              | fail)
            apply hr
            simp [← hc]
          · simp at h6
      · simp at h3
        have hil : i = l.length := by omega
        subst hil
        rw [List.drop_eq_nil_of_le (Nat.le_refl _), rckM] at hc
        try simp 
        apply he
        by_cases h4 : l.length < own.length
        · have : own.drop l.length ≠ [] := by intro e; have := congrArg List.length e; simp at this; omega
          simp [this] at hc
          try simp 
          repeat' (first
            | ((with_reducible refine PreK.intro ?_ ?_); (next => (first | omega | (intros; first | omega | (refine ⟨by omega, ?_⟩; repeat (first | assumption | constructor)) | assumption))); intro _; try simp )
            | fail)
          refine CondK.intro (fun h5 => ?_) (fun h5 => ?_)
          · try simp 
            repeat' (first
              | ((with_reducible refine PreK.intro ?_ ?_); (next => (first | omega | (intros; first | omega | (refine ⟨by omega, ?_⟩; repeat (first | assumption | constructor)) | assumption))); intro _; try simp )
              | fail)
            simp [← hc]
          · simp at h5; omega
        · have h6 : own.drop l.length = [] := List.drop_eq_nil_of_le (by omega)
          simp [h6] at hc
          cases ok
          · try simp 
            repeat' (first
              | ((with_reducible refine PreK.intro ?_ ?_); (next => (first | omega | (intros; first | omega | (refine ⟨by omega, ?_⟩; repeat (first | assumption | constructor)) | assumption))); intro _; try simp )
              | fail)
            refine CondK.intro (fun h5 => ?_) (fun h5 => ?_)
            · try simp 
              repeat' (first
                | ((with_reducible refine PreK.intro ?_ ?_); (next => (first | omega | (intros; first | omega | (refine ⟨by omega, ?_⟩; repeat (first | assumption | constructor)) | assumption))); intro _; try simp )
                | fail)
              simp [← hc]
            · simp at h5
          · try simp 
            repeat' (first
              | ((with_reducible refine PreK.intro ?_ ?_); (next => (first | omega | (intros; first | omega | (refine ⟨by omega, ?_⟩; repeat (first | assumption | constructor)) | assumption))); intro _; try simp )
              | fail)
            refine CondK.intro (fun h5 => ?_) (fun h5 => ?_)
            · simp at h5; omega
            · try simp 
              repeat' (first
                | ((with_reducible refine PreK.intro ?_ ?_); (next => (first | omega | (intros; first | omega | (refine ⟨by omega, ?_⟩; repeat (first | assumption | constructor)) | assumption))); intro _; try simp )
                | fail)
              simp [← hc]
theorem lawOrderChecks_c (x : Case) (l : List Choice) (h : x.rules.length ≤ big) (hlb : l.length ≤ big) : CallP Try.prog 5 [caseV x, choicesV l] (bv true) := by
  refine C5 (by simp) ?_
  simp [A5]
  refine CallX.pure (by simpa using Long_c x h) (by simp) (by simp) ?_
  try simp 
  cases hlc : longC x
  · by_cases h2 : 100 < l.length
    · try simp 
      repeat' (first
        | ((with_reducible refine PreK.intro ?_ ?_); (next => (first | omega | (intros; first | omega | (refine ⟨by omega, ?_⟩; repeat (first | assumption | constructor)) | assumption))); intro _; try simp )
        | fail)
      refine CondK.intro (fun h3 => ?_) (fun h3 => ?_)
      · try simp 
        repeat' (first
          | (refine CallX.pure (sane_c) (by simp) (by simp) ?_; try simp )
          | (refine CallK.intro (sane_c) (by simp) (by simp) ?_; try simp )
          | (refine CallG.intro (fun _ => sane_c) (by simp) (by simp) ?_; try simp )
          | ((with_reducible refine PreK.intro ?_ ?_); (next => (first | omega | (intros; first | omega | (refine ⟨by omega, ?_⟩; repeat (first | assumption | constructor)) | assumption))); intro _; try simp )
          | fail)
      · simp at h3; omega
    · try simp 
      repeat' (first
        | ((with_reducible refine PreK.intro ?_ ?_); (next => (first | omega | (intros; first | omega | (refine ⟨by omega, ?_⟩; repeat (first | assumption | constructor)) | assumption))); intro _; try simp )
        | fail)
      refine CondK.intro (fun h3 => ?_) (fun h3 => ?_)
      · simp at h3; omega
      · obtain ⟨hs, hw, hg, _⟩ := longC_small hlc
        try simp 
        repeat' (first
          | (refine CallX.pure (Check_c x.rules x.word x.grounds l hs hw hg (by omega)) (by simp) (by simp) ?_; try simp )
          | (refine CallK.intro (Check_c x.rules x.word x.grounds l hs hw hg (by omega)) (by simp) (by simp) ?_; try simp )
          | (refine CallG.intro (fun _ => Check_c x.rules x.word x.grounds l hs hw hg (by omega)) (by simp) (by simp) ?_; try simp )
          | (refine CallX.pure (rCheck_c x.rules x.word x.grounds l hs hw hg (by omega)) (by simp) (by simp) ?_; try simp )
          | (refine CallK.intro (rCheck_c x.rules x.word x.grounds l hs hw hg (by omega)) (by simp) (by simp) ?_; try simp )
          | (refine CallG.intro (fun _ => rCheck_c x.rules x.word x.grounds l hs hw hg (by omega)) (by simp) (by simp) ?_; try simp )
          | (refine CallX.pure (sane_c) (by simp) (by simp) ?_; try simp )
          | (refine CallK.intro (sane_c) (by simp) (by simp) ?_; try simp )
          | (refine CallG.intro (fun _ => sane_c) (by simp) (by simp) ?_; try simp )
          | ((with_reducible refine PreK.intro ?_ ?_); (next => (first | omega | (intros; first | omega | (refine ⟨by omega, ?_⟩; repeat (first | assumption | constructor)) | assumption))); intro _; try simp )
          | fail)
  · try simp 
    repeat' (first
      | ((with_reducible refine PreK.intro ?_ ?_); (next => (first | omega | (intros; first | omega | (refine ⟨by omega, ?_⟩; repeat (first | assumption | constructor)) | assumption))); intro _; try simp )
      | fail)
    refine CondK.intro (fun h3 => ?_) (fun h3 => ?_)
    · try simp 
      repeat' (first
        | (refine CallX.pure (sane_c) (by simp) (by simp) ?_; try simp )
        | (refine CallK.intro (sane_c) (by simp) (by simp) ?_; try simp )
        | (refine CallG.intro (fun _ => sane_c) (by simp) (by simp) ?_; try simp )
        | ((with_reducible refine PreK.intro ?_ ?_); (next => (first | omega | (intros; first | omega | (refine ⟨by omega, ?_⟩; repeat (first | assumption | constructor)) | assumption))); intro _; try simp )
        | fail)
    · simp at h3
end Go.Proofs.Ytaooenmkofjafaa
end

section
/- What further arguments of the statements are as abstract values. -/
namespace Go.Proofs.Ytaooenmkofjafaa
open Go.Abs Go

section
variable {H : Type} (en : TypeId × Value → H) (W : World)
theorem reads_step : Reads en Try.prog W 46 stepV :=
  (reads_struct2 (n0 := 1) (n1 := 1) Try.underlying46 (by kernel_rfl) (by kernel_rfl) (reads_i en W) (reads_i en W)).as (fun p => ⟨p.1, p.2⟩) (fun _ => rfl)
theorem reads_two : Reads en Try.prog W 48 twoV :=
  (reads_struct2 (n0 := 2) (n1 := 2) Try.underlying48 (by kernel_rfl) (by kernel_rfl) (reads_step en W) (reads_step en W)).as (fun p => (p.1, p.2)) (fun _ => rfl)
theorem reads_choice : Reads en Try.prog W 37 choiceV :=
  (reads_struct3 (n0 := 1) (n1 := 1) (n2 := 1) Try.underlying37 (by kernel_rfl) (by kernel_rfl) (reads_i en W) (reads_i en W) (reads_i en W)).as (fun p => ⟨p.1, p.2.1, p.2.2⟩) (fun _ => rfl)
theorem reads_choices : Reads en Try.prog W 28 choicesV := reads_slice Try.underlying28 (by kernel_rfl) (by decide) (by decide +kernel) (fun _ => rfl) (reads_choice en W)
end
theorem len_of_choices {W : World} {l : List Choice} {v : Value} (h : Rep W Noblk Mu.none (choicesV l) v) : l.length ≤ big := by simpa using len_of_seq h
end Go.Proofs.Ytaooenmkofjafaa
end
