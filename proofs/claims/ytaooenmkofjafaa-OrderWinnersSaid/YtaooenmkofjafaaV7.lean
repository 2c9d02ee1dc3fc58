/- Part 7 of the proof: contracts of further functions that the statement reaches; proved without conditions beyond those each theorem states. -/
import Derived.Test.YtaooenmkofjafaaV6
set_option linter.unusedSimpArgs false
set_option linter.unusedVariables false
set_option maxRecDepth 20000

namespace Go.Proofs.Ytaooenmkofjafaa
open Go.Abs Go

/-- vyakarana vyakaranaref04.Winner -/
def A35 : ACode :=
  (.seq (.reg [] [⟨some 6, (.alloc 37), 0, none⟩,
      ⟨some 7, (.assign (.const (.bool false))), 4, none⟩,
      ⟨some 8, (.assign (.const (.int .i64 0))), 29, none⟩])
    (.seq (.reg [] [⟨some 12, (.move (.tmp 0)), 22, none⟩,
      ⟨some 13, (.move (.tmp 1)), 23, none⟩,
      ⟨some 14, (.move (.tmp 2)), 23, none⟩,
      ⟨some 15, (.call ⟨(.value (.func 109)), #[(.tmp 12), (.tmp 13), (.tmp 14)], #[22, 23, 23]⟩), 29, none⟩,
      ⟨some 9, (.assign (.tmp 15)), 29, none⟩])
    (.seq (.seq (.reg [] [⟨some 16, (.move (.tmp 9)), 29, none⟩,
      ⟨some 17, (.binOp .neq 29 (.tmp 16) (.const (.int .i64 0)) 29), 4, none⟩])
    (.cond (.tmp 17)
    (.seq (.reg [] [⟨some 18, (.build 37 #[]), 37, none⟩,
      ⟨some 19, (.move (.tmp 9)), 29, none⟩,
      ⟨none, (.store 37 (.tmp 6) (.tmp 18)), 0, none⟩,
      ⟨some 7, (.assign (.const (.bool false))), 4, none⟩,
      ⟨some 8, (.assign (.tmp 19)), 29, none⟩])
    .ret)
    .skip))
    (.seq (.reg [] [⟨some 21, (.move (.tmp 0)), 22, none⟩,
      ⟨some 22, (.move (.tmp 1)), 23, none⟩,
      ⟨some 23, (.move (.tmp 2)), 23, none⟩,
      ⟨some 24, (.call ⟨(.value (.func 112)), #[(.tmp 21), (.tmp 22), (.tmp 23)], #[22, 23, 23]⟩), 115, none⟩,
      ⟨some 20, (.move (.tmp 24)), 115, none⟩,
      ⟨some 25, (.extract (.tmp 20) 0), 37, none⟩,
      ⟨some 26, (.extract (.tmp 20) 1), 4, none⟩,
      ⟨some 10, (.alloc 37), 0, none⟩,
      ⟨none, (.store 37 (.tmp 10) (.tmp 25)), 0, none⟩,
      ⟨some 11, (.assign (.tmp 26)), 4, none⟩])
    (.seq (.reg [] [⟨some 27, (.load 37 (.tmp 10)), 37, none⟩,
      ⟨some 28, (.move (.tmp 11)), 4, none⟩,
      ⟨none, (.store 37 (.tmp 6) (.tmp 27)), 0, none⟩,
      ⟨some 7, (.assign (.tmp 28)), 4, none⟩,
      ⟨some 8, (.assign (.const (.int .i64 0))), 29, none⟩])
    .ret)))))
theorem C35 {args : List AV} {r : AV} (hn : args.length ≤ 29) (h : vc Try.prog T [] A35 (Fin T [(.cell 6 37), (.tmp 7), (.tmp 8)] r) ⟨envOf 0 args, []⟩) : CallP Try.prog 35 args r :=
  callP_of tok mixed Try.func35 (by kernel_rfl) (by kernel_rfl) (by kernel_rfl : Try.f35.ntmps = 29) (by kernel_rfl : Try.f35.body.bind (strip 29 (fun _ => [])) = some A35) hn h
theorem CO35 {args : List AV} {sz : Nat} {els : List AV} (hn : args.length ≤ 29) (h : vc Try.prog T [] A35 (FinO [(.cell 6 37), (.tmp 7), (.tmp 8)] sz els) ⟨envOf 0 args, []⟩) : CallO Try.prog 35 args sz els :=
  callO_of tok mixed Try.func35 (by kernel_rfl) (by kernel_rfl) (by kernel_rfl : Try.f35.ntmps = 29) (by kernel_rfl : Try.f35.body.bind (strip 29 (fun _ => [])) = some A35) hn h
theorem CL35 {pre suf : List AV} {sz : Nat} {els els' : List AV} {r : LRet} (hn : (pre ++ .sl lid 0 0 els.length :: suf).length ≤ 29) (h : vc Try.prog T [] A35 (FinL T [(.cell 6 37), (.tmp 7), (.tmp 8)] sz r els') ⟨envOf 0 (pre ++ .sl lid 0 0 els.length :: suf), [(lid, some ⟨sz, els, 0, false⟩)]⟩) : CallL Try.prog 35 pre sz els suf r els' :=
  callL_of tok mixed Try.func35 (by kernel_rfl) (by kernel_rfl) (by kernel_rfl : Try.f35.ntmps = 29) (by kernel_rfl : Try.f35.body.bind (strip 29 (fun _ => [])) = some A35) hn h


/-- vyakarana order.IsClear -/
def A36 : ACode :=
  (.seq (.reg [] [⟨some 6, (.assign (.const (.bool false))), 4, none⟩,
      ⟨some 7, (.assign (.const (.int .i64 0))), 29, none⟩])
    (.seq (.seq (.reg [] [⟨some 12, (.move (.tmp 0)), 22, none⟩,
      ⟨some 13, (.move (.tmp 1)), 23, none⟩,
      ⟨some 14, (.move (.tmp 2)), 23, none⟩,
      ⟨some 15, (.buildSlice 62 1 #[(0, (.tmp 14))]), 62, none⟩,
      ⟨some 16, (.call ⟨(.value (.func 107)), #[(.tmp 12), (.tmp 13), (.tmp 15)], #[22, 23, 62]⟩), 29, none⟩,
      ⟨some 8, (.assign (.tmp 16)), 29, none⟩])
    (.seq (.reg [] [⟨some 17, (.move (.tmp 8)), 29, none⟩,
      ⟨some 18, (.binOp .neq 29 (.tmp 17) (.const (.int .i64 0)) 29), 4, none⟩])
    (.cond (.tmp 18)
    (.seq (.reg [] [⟨some 19, (.move (.tmp 8)), 29, none⟩,
      ⟨some 6, (.assign (.const (.bool false))), 4, none⟩,
      ⟨some 7, (.assign (.tmp 19)), 29, none⟩])
    .ret)
    .skip)))
    (.seq (.reg [] [⟨some 20, (.move (.tmp 0)), 22, none⟩,
      ⟨some 21, (.move (.tmp 1)), 23, none⟩,
      ⟨some 22, (.call ⟨(.value (.func 113)), #[(.tmp 20), (.tmp 21)], #[22, 23]⟩), 117, none⟩,
      ⟨some 9, (.assign (.tmp 22)), 117, none⟩])
    (.seq (.seq (.reg [] [⟨some 23, (.move (.tmp 9)), 117, none⟩,
      ⟨some 24, (.call ⟨(.builtin .len), #[(.tmp 23)], #[117]⟩), 3, none⟩,
      ⟨some 25, (.binOp .eql 3 (.tmp 24) (.const (.int .i64 0)) 3), 4, none⟩])
    (.cond (.tmp 25)
    (.seq (.reg [] [⟨some 6, (.assign (.const (.bool true))), 4, none⟩,
      ⟨some 7, (.assign (.const (.int .i64 0))), 29, none⟩])
    .ret)
    .skip))
    (.seq (.reg [] [⟨some 27, (.move (.tmp 1)), 23, none⟩,
      ⟨some 28, (.move (.tmp 2)), 23, none⟩,
      ⟨some 29, (.move (.tmp 9)), 117, none⟩,
      ⟨some 30, (.call ⟨(.value (.func 114)), #[(.tmp 27), (.tmp 28), (.tmp 29)], #[23, 23, 117]⟩), 121, none⟩,
      ⟨some 26, (.move (.tmp 30)), 121, none⟩,
      ⟨some 31, (.extract (.tmp 26) 0), 120, none⟩,
      ⟨some 32, (.extract (.tmp 26) 1), 4, none⟩,
      ⟨some 10, (.alloc 120), 0, none⟩,
      ⟨none, (.store 120 (.tmp 10) (.tmp 31)), 0, none⟩,
      ⟨some 11, (.assign (.tmp 32)), 4, none⟩])
    (.seq (.reg [] [⟨some 33, (.move (.tmp 11)), 4, none⟩,
      ⟨some 6, (.assign (.tmp 33)), 4, none⟩,
      ⟨some 7, (.assign (.const (.int .i64 0))), 29, none⟩])
    .ret))))))
theorem C36 {args : List AV} {r : AV} (hn : args.length ≤ 34) (h : vc Try.prog T [] A36 (Fin T [(.tmp 6), (.tmp 7)] r) ⟨envOf 0 args, []⟩) : CallP Try.prog 36 args r :=
  callP_of tok mixed Try.func36 (by kernel_rfl) (by kernel_rfl) (by kernel_rfl : Try.f36.ntmps = 34) (by kernel_rfl : Try.f36.body.bind (strip 34 (fun _ => [])) = some A36) hn h
theorem CO36 {args : List AV} {sz : Nat} {els : List AV} (hn : args.length ≤ 34) (h : vc Try.prog T [] A36 (FinO [(.tmp 6), (.tmp 7)] sz els) ⟨envOf 0 args, []⟩) : CallO Try.prog 36 args sz els :=
  callO_of tok mixed Try.func36 (by kernel_rfl) (by kernel_rfl) (by kernel_rfl : Try.f36.ntmps = 34) (by kernel_rfl : Try.f36.body.bind (strip 34 (fun _ => [])) = some A36) hn h
theorem CL36 {pre suf : List AV} {sz : Nat} {els els' : List AV} {r : LRet} (hn : (pre ++ .sl lid 0 0 els.length :: suf).length ≤ 34) (h : vc Try.prog T [] A36 (FinL T [(.tmp 6), (.tmp 7)] sz r els') ⟨envOf 0 (pre ++ .sl lid 0 0 els.length :: suf), [(lid, some ⟨sz, els, 0, false⟩)]⟩) : CallL Try.prog 36 pre sz els suf r els' :=
  callL_of tok mixed Try.func36 (by kernel_rfl) (by kernel_rfl) (by kernel_rfl : Try.f36.ntmps = 34) (by kernel_rfl : Try.f36.body.bind (strip 34 (fun _ => [])) = some A36) hn h


/-- vyakarana vyakaranaref04.IsClear -/
def A37 : ACode :=
  (.seq (.reg [] [⟨some 6, (.assign (.const (.bool false))), 4, none⟩,
      ⟨some 7, (.assign (.const (.int .i64 0))), 29, none⟩])
    (.seq (.reg [] [⟨some 10, (.move (.tmp 0)), 22, none⟩,
      ⟨some 11, (.move (.tmp 1)), 23, none⟩,
      ⟨some 12, (.move (.tmp 2)), 23, none⟩,
      ⟨some 13, (.call ⟨(.value (.func 109)), #[(.tmp 10), (.tmp 11), (.tmp 12)], #[22, 23, 23]⟩), 29, none⟩,
      ⟨some 8, (.assign (.tmp 13)), 29, none⟩])
    (.seq (.seq (.reg [] [⟨some 14, (.move (.tmp 8)), 29, none⟩,
      ⟨some 15, (.binOp .neq 29 (.tmp 14) (.const (.int .i64 0)) 29), 4, none⟩])
    (.cond (.tmp 15)
    (.seq (.reg [] [⟨some 16, (.move (.tmp 8)), 29, none⟩,
      ⟨some 6, (.assign (.const (.bool false))), 4, none⟩,
      ⟨some 7, (.assign (.tmp 16)), 29, none⟩])
    .ret)
    .skip))
    (.seq (.reg [] [⟨some 17, (.move (.tmp 0)), 22, none⟩,
      ⟨some 18, (.move (.tmp 1)), 23, none⟩,
      ⟨some 19, (.call ⟨(.value (.func 115)), #[(.tmp 17), (.tmp 18)], #[22, 23]⟩), 88, none⟩,
      ⟨some 9, (.assign (.tmp 19)), 88, none⟩])
    (.seq (.reg [] [⟨some 20, (.move (.tmp 9)), 88, none⟩,
      ⟨some 21, (.call ⟨(.builtin .len), #[(.tmp 20)], #[88]⟩), 3, none⟩,
      ⟨some 22, (.binOp .lss 3 (.tmp 21) (.const (.int .i64 2)) 3), 4, none⟩,
      ⟨some 23, (.move (.tmp 22)), 4, none⟩,
      ⟨some 24, (.move (.tmp 0)), 22, some (23, false)⟩,
      ⟨some 25, (.move (.tmp 1)), 23, some (23, false)⟩,
      ⟨some 26, (.move (.tmp 2)), 23, some (23, false)⟩,
      ⟨some 27, (.move (.tmp 9)), 88, some (23, false)⟩,
      ⟨some 28, (.call ⟨(.value (.func 116)), #[(.tmp 24), (.tmp 25), (.tmp 26), (.tmp 27)], #[22, 23, 23, 88]⟩), 3, some (23, false)⟩,
      ⟨some 29, (.binOp .geq 3 (.tmp 28) (.const (.int .i64 0)) 3), 4, some (23, false)⟩,
      ⟨some 30, (.pick (.tmp 23) (.const (.bool true)) (.tmp 29)), 4, none⟩,
      ⟨some 6, (.assign (.tmp 30)), 4, none⟩,
      ⟨some 7, (.assign (.const (.int .i64 0))), 29, none⟩])
    .ret)))))
theorem C37 {args : List AV} {r : AV} (hn : args.length ≤ 31) (h : vc Try.prog T [] A37 (Fin T [(.tmp 6), (.tmp 7)] r) ⟨envOf 0 args, []⟩) : CallP Try.prog 37 args r :=
  callP_of tok mixed Try.func37 (by kernel_rfl) (by kernel_rfl) (by kernel_rfl : Try.f37.ntmps = 31) (by kernel_rfl : Try.f37.body.bind (strip 31 (fun _ => [])) = some A37) hn h
theorem CO37 {args : List AV} {sz : Nat} {els : List AV} (hn : args.length ≤ 31) (h : vc Try.prog T [] A37 (FinO [(.tmp 6), (.tmp 7)] sz els) ⟨envOf 0 args, []⟩) : CallO Try.prog 37 args sz els :=
  callO_of tok mixed Try.func37 (by kernel_rfl) (by kernel_rfl) (by kernel_rfl : Try.f37.ntmps = 31) (by kernel_rfl : Try.f37.body.bind (strip 31 (fun _ => [])) = some A37) hn h
theorem CL37 {pre suf : List AV} {sz : Nat} {els els' : List AV} {r : LRet} (hn : (pre ++ .sl lid 0 0 els.length :: suf).length ≤ 31) (h : vc Try.prog T [] A37 (FinL T [(.tmp 6), (.tmp 7)] sz r els') ⟨envOf 0 (pre ++ .sl lid 0 0 els.length :: suf), [(lid, some ⟨sz, els, 0, false⟩)]⟩) : CallL Try.prog 37 pre sz els suf r els' :=
  callL_of tok mixed Try.func37 (by kernel_rfl) (by kernel_rfl) (by kernel_rfl : Try.f37.ntmps = 31) (by kernel_rfl : Try.f37.body.bind (strip 31 (fun _ => [])) = some A37) hn h


/-- vyakarana order.Winner -/
def A34 : ACode :=
  (.seq (.reg [] [⟨some 6, (.alloc 37), 0, none⟩,
      ⟨some 7, (.assign (.const (.bool false))), 4, none⟩,
      ⟨some 8, (.assign (.const (.int .i64 0))), 29, none⟩])
    (.seq (.seq (.reg [] [⟨some 12, (.move (.tmp 0)), 22, none⟩,
      ⟨some 13, (.move (.tmp 1)), 23, none⟩,
      ⟨some 14, (.move (.tmp 2)), 23, none⟩,
      ⟨some 15, (.buildSlice 62 1 #[(0, (.tmp 14))]), 62, none⟩,
      ⟨some 16, (.call ⟨(.value (.func 107)), #[(.tmp 12), (.tmp 13), (.tmp 15)], #[22, 23, 62]⟩), 29, none⟩,
      ⟨some 9, (.assign (.tmp 16)), 29, none⟩])
    (.seq (.reg [] [⟨some 17, (.move (.tmp 9)), 29, none⟩,
      ⟨some 18, (.binOp .neq 29 (.tmp 17) (.const (.int .i64 0)) 29), 4, none⟩])
    (.cond (.tmp 18)
    (.seq (.reg [] [⟨some 19, (.build 37 #[]), 37, none⟩,
      ⟨some 20, (.move (.tmp 9)), 29, none⟩,
      ⟨none, (.store 37 (.tmp 6) (.tmp 19)), 0, none⟩,
      ⟨some 7, (.assign (.const (.bool false))), 4, none⟩,
      ⟨some 8, (.assign (.tmp 20)), 29, none⟩])
    .ret)
    .skip)))
    (.seq (.reg [] [⟨some 22, (.move (.tmp 0)), 22, none⟩,
      ⟨some 23, (.move (.tmp 1)), 23, none⟩,
      ⟨some 24, (.move (.tmp 2)), 23, none⟩,
      ⟨some 25, (.call ⟨(.value (.func 111)), #[(.tmp 22), (.tmp 23), (.tmp 24)], #[22, 23, 23]⟩), 115, none⟩,
      ⟨some 21, (.move (.tmp 25)), 115, none⟩,
      ⟨some 26, (.extract (.tmp 21) 0), 37, none⟩,
      ⟨some 27, (.extract (.tmp 21) 1), 4, none⟩,
      ⟨some 10, (.alloc 37), 0, none⟩,
      ⟨none, (.store 37 (.tmp 10) (.tmp 26)), 0, none⟩,
      ⟨some 11, (.assign (.tmp 27)), 4, none⟩])
    (.seq (.reg [] [⟨some 28, (.load 37 (.tmp 10)), 37, none⟩,
      ⟨some 29, (.move (.tmp 11)), 4, none⟩,
      ⟨none, (.store 37 (.tmp 6) (.tmp 28)), 0, none⟩,
      ⟨some 7, (.assign (.tmp 29)), 4, none⟩,
      ⟨some 8, (.assign (.const (.int .i64 0))), 29, none⟩])
    .ret))))
theorem C34 {args : List AV} {r : AV} (hn : args.length ≤ 30) (h : vc Try.prog T [] A34 (Fin T [(.cell 6 37), (.tmp 7), (.tmp 8)] r) ⟨envOf 0 args, []⟩) : CallP Try.prog 34 args r :=
  callP_of tok mixed Try.func34 (by kernel_rfl) (by kernel_rfl) (by kernel_rfl : Try.f34.ntmps = 30) (by kernel_rfl : Try.f34.body.bind (strip 30 (fun _ => [])) = some A34) hn h
theorem CO34 {args : List AV} {sz : Nat} {els : List AV} (hn : args.length ≤ 30) (h : vc Try.prog T [] A34 (FinO [(.cell 6 37), (.tmp 7), (.tmp 8)] sz els) ⟨envOf 0 args, []⟩) : CallO Try.prog 34 args sz els :=
  callO_of tok mixed Try.func34 (by kernel_rfl) (by kernel_rfl) (by kernel_rfl : Try.f34.ntmps = 30) (by kernel_rfl : Try.f34.body.bind (strip 30 (fun _ => [])) = some A34) hn h
theorem CL34 {pre suf : List AV} {sz : Nat} {els els' : List AV} {r : LRet} (hn : (pre ++ .sl lid 0 0 els.length :: suf).length ≤ 30) (h : vc Try.prog T [] A34 (FinL T [(.cell 6 37), (.tmp 7), (.tmp 8)] sz r els') ⟨envOf 0 (pre ++ .sl lid 0 0 els.length :: suf), [(lid, some ⟨sz, els, 0, false⟩)]⟩) : CallL Try.prog 34 pre sz els suf r els' :=
  callL_of tok mixed Try.func34 (by kernel_rfl) (by kernel_rfl) (by kernel_rfl : Try.f34.ntmps = 30) (by kernel_rfl : Try.f34.body.bind (strip 30 (fun _ => [])) = some A34) hn h


/-- vyakarana vyakaranalaw04.OrderWinners -/
def A4 : ACode :=
  (.seq (.reg [] [⟨some 1, (.box 25 (.tmp 0)), 0, none⟩,
      ⟨some 2, (.assign (.const (.bool false))), 4, none⟩])
    (.seq (.seq (.reg [] [⟨some 13, (.load 25 (.tmp 1)), 25, none⟩,
      ⟨some 14, (.call ⟨(.value (.func 27)), #[(.tmp 13)], #[25]⟩), 4, none⟩])
    (.cond (.tmp 14)
    (.seq (.reg [] [⟨some 15, (.call ⟨(.value (.func 28)), #[], #[]⟩), 4, none⟩,
      ⟨some 2, (.assign (.tmp 15)), 4, none⟩])
    .ret)
    .skip))
    (.seq (.reg [] [⟨some 17, (.fieldAddr 25 (.tmp 1) 0), 0, none⟩,
      ⟨some 18, (.load 22 (.tmp 17)), 22, none⟩,
      ⟨some 19, (.fieldAddr 25 (.tmp 1) 1), 0, none⟩,
      ⟨some 20, (.load 23 (.tmp 19)), 23, none⟩,
      ⟨some 21, (.fieldAddr 25 (.tmp 1) 2), 0, none⟩,
      ⟨some 22, (.load 23 (.tmp 21)), 23, none⟩,
      ⟨some 23, (.call ⟨(.value (.func 34)), #[(.tmp 18), (.tmp 20), (.tmp 22)], #[22, 23, 23]⟩), 38, none⟩,
      ⟨some 16, (.move (.tmp 23)), 38, none⟩,
      ⟨some 24, (.extract (.tmp 16) 0), 37, none⟩,
      ⟨some 25, (.extract (.tmp 16) 1), 4, none⟩,
      ⟨some 26, (.extract (.tmp 16) 2), 29, none⟩,
      ⟨some 3, (.alloc 37), 0, none⟩,
      ⟨none, (.store 37 (.tmp 3) (.tmp 24)), 0, none⟩,
      ⟨some 4, (.assign (.tmp 25)), 4, none⟩,
      ⟨some 5, (.assign (.tmp 26)), 29, none⟩])
    (.seq (.reg [] [⟨some 28, (.fieldAddr 25 (.tmp 1) 0), 0, none⟩,
      ⟨some 29, (.load 22 (.tmp 28)), 22, none⟩,
      ⟨some 30, (.fieldAddr 25 (.tmp 1) 1), 0, none⟩,
      ⟨some 31, (.load 23 (.tmp 30)), 23, none⟩,
      ⟨some 32, (.fieldAddr 25 (.tmp 1) 2), 0, none⟩,
      ⟨some 33, (.load 23 (.tmp 32)), 23, none⟩,
      ⟨some 34, (.call ⟨(.value (.func 35)), #[(.tmp 29), (.tmp 31), (.tmp 33)], #[22, 23, 23]⟩), 38, none⟩,
      ⟨some 27, (.move (.tmp 34)), 38, none⟩,
      ⟨some 35, (.extract (.tmp 27) 0), 37, none⟩,
      ⟨some 36, (.extract (.tmp 27) 1), 4, none⟩,
      ⟨some 37, (.extract (.tmp 27) 2), 29, none⟩,
      ⟨some 6, (.alloc 37), 0, none⟩,
      ⟨none, (.store 37 (.tmp 6) (.tmp 35)), 0, none⟩,
      ⟨some 7, (.assign (.tmp 36)), 4, none⟩,
      ⟨some 8, (.assign (.tmp 37)), 29, none⟩])
    (.seq (.reg [] [⟨some 39, (.fieldAddr 25 (.tmp 1) 0), 0, none⟩,
      ⟨some 40, (.load 22 (.tmp 39)), 22, none⟩,
      ⟨some 41, (.fieldAddr 25 (.tmp 1) 1), 0, none⟩,
      ⟨some 42, (.load 23 (.tmp 41)), 23, none⟩,
      ⟨some 43, (.fieldAddr 25 (.tmp 1) 2), 0, none⟩,
      ⟨some 44, (.load 23 (.tmp 43)), 23, none⟩,
      ⟨some 45, (.call ⟨(.value (.func 36)), #[(.tmp 40), (.tmp 42), (.tmp 44)], #[22, 23, 23]⟩), 40, none⟩,
      ⟨some 38, (.move (.tmp 45)), 40, none⟩,
      ⟨some 46, (.extract (.tmp 38) 0), 4, none⟩,
      ⟨some 47, (.extract (.tmp 38) 1), 29, none⟩,
      ⟨some 9, (.assign (.tmp 46)), 4, none⟩,
      ⟨some 10, (.assign (.tmp 47)), 29, none⟩])
    (.seq (.reg [] [⟨some 49, (.fieldAddr 25 (.tmp 1) 0), 0, none⟩,
      ⟨some 50, (.load 22 (.tmp 49)), 22, none⟩,
      ⟨some 51, (.fieldAddr 25 (.tmp 1) 1), 0, none⟩,
      ⟨some 52, (.load 23 (.tmp 51)), 23, none⟩,
      ⟨some 53, (.fieldAddr 25 (.tmp 1) 2), 0, none⟩,
      ⟨some 54, (.load 23 (.tmp 53)), 23, none⟩,
      ⟨some 55, (.call ⟨(.value (.func 37)), #[(.tmp 50), (.tmp 52), (.tmp 54)], #[22, 23, 23]⟩), 40, none⟩,
      ⟨some 48, (.move (.tmp 55)), 40, none⟩,
      ⟨some 56, (.extract (.tmp 48) 0), 4, none⟩,
      ⟨some 57, (.extract (.tmp 48) 1), 29, none⟩,
      ⟨some 11, (.assign (.tmp 56)), 4, none⟩,
      ⟨some 12, (.assign (.tmp 57)), 29, none⟩])
    (.seq (.reg [] [⟨some 58, (.load 37 (.tmp 3)), 37, none⟩,
      ⟨some 59, (.load 37 (.tmp 6)), 37, none⟩,
      ⟨some 60, (.binOp .eql 37 (.tmp 58) (.tmp 59) 37), 4, none⟩,
      ⟨some 61, (.move (.tmp 60)), 4, none⟩,
      ⟨some 62, (.move (.tmp 4)), 4, some (61, true)⟩,
      ⟨some 63, (.move (.tmp 7)), 4, some (61, true)⟩,
      ⟨some 64, (.binOp .eql 4 (.tmp 62) (.tmp 63) 4), 4, some (61, true)⟩,
      ⟨some 65, (.pick (.tmp 61) (.tmp 64) (.const (.bool false))), 4, none⟩,
      ⟨some 66, (.move (.tmp 65)), 4, none⟩,
      ⟨some 67, (.move (.tmp 5)), 29, some (66, true)⟩,
      ⟨some 68, (.move (.tmp 8)), 29, some (66, true)⟩,
      ⟨some 69, (.binOp .eql 29 (.tmp 67) (.tmp 68) 29), 4, some (66, true)⟩,
      ⟨some 70, (.pick (.tmp 66) (.tmp 69) (.const (.bool false))), 4, none⟩,
      ⟨some 71, (.move (.tmp 70)), 4, none⟩,
      ⟨some 72, (.move (.tmp 9)), 4, some (71, true)⟩,
      ⟨some 73, (.move (.tmp 11)), 4, some (71, true)⟩,
      ⟨some 74, (.binOp .eql 4 (.tmp 72) (.tmp 73) 4), 4, some (71, true)⟩,
      ⟨some 75, (.pick (.tmp 71) (.tmp 74) (.const (.bool false))), 4, none⟩,
      ⟨some 76, (.move (.tmp 75)), 4, none⟩,
      ⟨some 77, (.move (.tmp 10)), 29, some (76, true)⟩,
      ⟨some 78, (.move (.tmp 12)), 29, some (76, true)⟩,
      ⟨some 79, (.binOp .eql 29 (.tmp 77) (.tmp 78) 29), 4, some (76, true)⟩,
      ⟨some 80, (.pick (.tmp 76) (.tmp 79) (.const (.bool false))), 4, none⟩,
      ⟨some 81, (.move (.tmp 80)), 4, none⟩,
      ⟨some 82, (.call ⟨(.value (.func 28)), #[], #[]⟩), 4, some (81, true)⟩,
      ⟨some 83, (.pick (.tmp 81) (.tmp 82) (.const (.bool false))), 4, none⟩,
      ⟨some 2, (.assign (.tmp 83)), 4, none⟩])
    .ret)))))))
theorem C4 {args : List AV} {r : AV} (hn : args.length ≤ 84) (h : vc Try.prog T [] A4 (Fin T [(.tmp 2)] r) ⟨envOf 0 args, []⟩) : CallP Try.prog 4 args r :=
  callP_of tok mixed Try.func4 (by kernel_rfl) (by kernel_rfl) (by kernel_rfl : Try.f4.ntmps = 84) (by kernel_rfl : Try.f4.body.bind (strip 84 (fun _ => [])) = some A4) hn h
theorem CO4 {args : List AV} {sz : Nat} {els : List AV} (hn : args.length ≤ 84) (h : vc Try.prog T [] A4 (FinO [(.tmp 2)] sz els) ⟨envOf 0 args, []⟩) : CallO Try.prog 4 args sz els :=
  callO_of tok mixed Try.func4 (by kernel_rfl) (by kernel_rfl) (by kernel_rfl : Try.f4.ntmps = 84) (by kernel_rfl : Try.f4.body.bind (strip 84 (fun _ => [])) = some A4) hn h
theorem CL4 {pre suf : List AV} {sz : Nat} {els els' : List AV} {r : LRet} (hn : (pre ++ .sl lid 0 0 els.length :: suf).length ≤ 84) (h : vc Try.prog T [] A4 (FinL T [(.tmp 2)] sz r els') ⟨envOf 0 (pre ++ .sl lid 0 0 els.length :: suf), [(lid, some ⟨sz, els, 0, false⟩)]⟩) : CallL Try.prog 4 pre sz els suf r els' :=
  callL_of tok mixed Try.func4 (by kernel_rfl) (by kernel_rfl) (by kernel_rfl : Try.f4.ntmps = 84) (by kernel_rfl : Try.f4.body.bind (strip 84 (fun _ => [])) = some A4) hn h


end Go.Proofs.Ytaooenmkofjafaa

section
/- Contracts: Winner and IsClear, and the statement OrderWinners. -/
namespace Go.Proofs.Ytaooenmkofjafaa
open Go.Abs Go
set_option maxRecDepth 20000
set_option maxHeartbeats 2000000
attribute [local irreducible] PreK CondK CallK CallG CallX LoopK
attribute [local simp] avsEq avEq akind teq vkind vEq candS_eq

/-- What Winner answers. -/
def WinnerR (s : List Rule) (w gs : List Int) : Choice × Bool × Int :=
  if orderErr s w gs ≠ 0 then (⟨0, 0, 0⟩, false, orderErr s w gs) else ((choiceM s w gs).getD ⟨0, 0, 0⟩, (choiceM s w gs).isSome, 0)
/-- What IsClear answers where the input is whole. -/
def clearM (s : List Rule) (w gs : List Int) : Bool := match stepsM s w with | [] => true | x :: l => (bestM s w gs (x :: l)).isSome
def ClearR (s : List Rule) (w gs : List Int) : Bool × Int := if orderErr s w gs ≠ 0 then (false, orderErr s w gs) else (clearM s w gs, 0)

theorem Winner_c (s : List Rule) (w gs : List Int) (hs : Sys.small s) (hw : w.length ≤ 1000) (hgl : gs.length ≤ 1000) :
    CallP Try.prog 34 [rulesV s, ints w, ints gs] (.tup [choiceV (WinnerR s w gs).1, bv (WinnerR s w gs).2.1, iv (WinnerR s w gs).2.2]) := by
  refine C34 (by simp) ?_
  have hck := ocheck_c s w [gs] hs hw (by simp) (by simpa using hgl)
  rw [ocheck_one] at hck
  simp [A34]
  try simp 
  repeat' (first
    | (refine CallX.pure (hck) (by simp) (by simp) ?_; try simp )
    | (refine CallK.intro (hck) (by simp) (by simp) ?_; try simp )
    | (refine CallG.intro (fun _ => hck) (by simp) (by simp) ?_; try simp )
    | ((with_reducible refine PreK.intro ?_ ?_); (next => (first | omega | (intros; first | omega | (refine ⟨by omega, ?_⟩; repeat (first | assumption | constructor)) | assumption))); intro _; try simp )
    | fail)
  refine CondK.intro (fun h1 => ?_) (fun h1 => ?_)
  · simp at h1
    simp [WinnerR, h1]
  · simp at h1
    have hd := choice_c s w gs hs hw (gErr_ok (orderErr_zero h1).2) hgl
    try simp 
    repeat' (first
      | (refine CallX.pure (hd) (by simp) (by simp) ?_; try simp )
      | (refine CallK.intro (hd) (by simp) (by simp) ?_; try simp )
      | (refine CallG.intro (fun _ => hd) (by simp) (by simp) ?_; try simp )
      | ((with_reducible refine PreK.intro ?_ ?_); (next => (first | omega | (intros; first | omega | (refine ⟨by omega, ?_⟩; repeat (first | assumption | constructor)) | assumption))); intro _; try simp )
      | fail)
    simp [WinnerR, h1]
theorem rWinner_c (s : List Rule) (w gs : List Int) (hs : Sys.small s) (hw : w.length ≤ 1000) (hgl : gs.length ≤ 1000) :
    CallP Try.prog 35 [rulesV s, ints w, ints gs] (.tup [choiceV (WinnerR s w gs).1, bv (WinnerR s w gs).2.1, iv (WinnerR s w gs).2.2]) := by
  refine C35 (by simp) ?_
  have hck := rall_c s w gs hs hw hgl
  simp [A35]
  try simp 
  repeat' (first
    | (refine CallX.pure (hck) (by simp) (by simp) ?_; try simp )
    | (refine CallK.intro (hck) (by simp) (by simp) ?_; try simp )
    | (refine CallG.intro (fun _ => hck) (by simp) (by simp) ?_; try simp )
    | ((with_reducible refine PreK.intro ?_ ?_); (next => (first | omega | (intros; first | omega | (refine ⟨by omega, ?_⟩; repeat (first | assumption | constructor)) | assumption))); intro _; try simp )
    | fail)
  refine CondK.intro (fun h1 => ?_) (fun h1 => ?_)
  · simp at h1
    simp [WinnerR, h1]
  · simp at h1
    have hd := winner_c s w gs hs hw (gErr_ok (orderErr_zero h1).2) hgl
    try simp 
    repeat' (first
      | (refine CallX.pure (hd) (by simp) (by simp) ?_; try simp )
      | (refine CallK.intro (hd) (by simp) (by simp) ?_; try simp )
      | (refine CallG.intro (fun _ => hd) (by simp) (by simp) ?_; try simp )
      | ((with_reducible refine PreK.intro ?_ ?_); (next => (first | omega | (intros; first | omega | (refine ⟨by omega, ?_⟩; repeat (first | assumption | constructor)) | assumption))); intro _; try simp )
      | fail)
    simp [WinnerR, h1]
theorem IsClear_c (s : List Rule) (w gs : List Int) (hs : Sys.small s) (hw : w.length ≤ 1000) (hgl : gs.length ≤ 1000) :
    CallP Try.prog 36 [rulesV s, ints w, ints gs] (.tup [bv (ClearR s w gs).1, iv (ClearR s w gs).2]) := by
  refine C36 (by simp) ?_
  have hck := ocheck_c s w [gs] hs hw (by simp) (by simpa using hgl)
  rw [ocheck_one] at hck
  have hcd := candidates_c s w hs hw
  have hok : ∀ x ∈ stepsM s w, stepOK s x := stepsM_ok
  have hlen : (stepsM s w).length ≤ 54 := stepsM_len
  simp [A36]
  try simp 
  repeat' (first
    | (refine CallX.pure (hck) (by simp) (by simp) ?_; try simp )
    | (refine CallK.intro (hck) (by simp) (by simp) ?_; try simp )
    | (refine CallG.intro (fun _ => hck) (by simp) (by simp) ?_; try simp )
    | ((with_reducible refine PreK.intro ?_ ?_); (next => (first | omega | (intros; first | omega | (refine ⟨by omega, ?_⟩; repeat (first | assumption | constructor)) | assumption))); intro _; try simp )
    | fail)
  refine CondK.intro (fun h1 => ?_) (fun h1 => ?_)
  · simp at h1
    simp [ClearR, h1]
  · simp at h1
    have hR : ClearR s w gs = (clearM s w gs, 0) := by simp [ClearR, h1]
    rw [hR]
    generalize hR2 : clearM s w gs = R
    unfold clearM at hR2
    generalize stepsM s w = l at hcd hok hlen hR2
    try simp 
    repeat' (first
      | (refine CallX.pure (hcd) (by simp) (by simp) ?_; try simp )
      | (refine CallK.intro (hcd) (by simp) (by simp) ?_; try simp )
      | (refine CallG.intro (fun _ => hcd) (by simp) (by simp) ?_; try simp )
      | ((with_reducible refine PreK.intro ?_ ?_); (next => (first | omega | (intros; first | omega | (refine ⟨by omega, ?_⟩; repeat (first | assumption | constructor)) | assumption))); intro _; try simp )
      | fail)
    match l with
    | [] =>
      dsimp only at hR2
      subst hR2
      refine CondK.intro (fun h2 => ?_) (fun h2 => ?_)
      · try simp 
        repeat' (first
          | ((with_reducible refine PreK.intro ?_ ?_); (next => (first | omega | (intros; first | omega | (refine ⟨by omega, ?_⟩; repeat (first | assumption | constructor)) | assumption))); intro _; try simp )
          | fail)
      · simp at h2
    | x :: xs =>
      have hch := champion_c s w gs x xs hs hw (gErr_ok (orderErr_zero h1).2) hgl (by simp at hlen; omega) hok
      dsimp only at hR2
      rw [bestM_champ] at hR2
      refine CondK.intro (fun h2 => ?_) (fun h2 => ?_)
      · exfalso; simp at h2
      · by_cases ht : topOf s w gs (x :: xs) (champ s w gs x xs) = true
        · rw [if_pos ht] at hR2
          simp only [ht, if_true] at hch
          simp at hR2
          try simp 
          repeat' (first
            | (refine CallX.pure (hch) (by simp) (by simp) ?_; try simp )
            | (refine CallK.intro (hch) (by simp) (by simp) ?_; try simp )
            | (refine CallG.intro (fun _ => hch) (by simp) (by simp) ?_; try simp )
            | ((with_reducible refine PreK.intro ?_ ?_); (next => (first | omega | (intros; first | omega | (refine ⟨by omega, ?_⟩; repeat (first | assumption | constructor)) | assumption))); intro _; try simp )
            | fail)
          simp [hR2]
        · rw [if_neg ht] at hR2
          have ht' : topOf s w gs (x :: xs) (champ s w gs x xs) = false := by simpa using ht
          simp only [ht'] at hch
          simp at hR2 hch
          try simp 
          repeat' (first
            | (refine CallX.pure (hch) (by simp) (by simp) ?_; try simp )
            | (refine CallK.intro (hch) (by simp) (by simp) ?_; try simp )
            | (refine CallG.intro (fun _ => hch) (by simp) (by simp) ?_; try simp )
            | ((with_reducible refine PreK.intro ?_ ?_); (next => (first | omega | (intros; first | omega | (refine ⟨by omega, ?_⟩; repeat (first | assumption | constructor)) | assumption))); intro _; try simp )
            | fail)
          simp [hR2]
theorem rIsClear_c (s : List Rule) (w gs : List Int) (hs : Sys.small s) (hw : w.length ≤ 1000) (hgl : gs.length ≤ 1000) :
    CallP Try.prog 37 [rulesV s, ints w, ints gs] (.tup [bv (ClearR s w gs).1, iv (ClearR s w gs).2]) := by
  refine C37 (by simp) ?_
  have hck := rall_c s w gs hs hw hgl
  have hcd := rcandidates_c s w hs hw
  have hok : ∀ x ∈ stepsM s w, stepOK s x := stepsM_ok
  have hlen : (stepsM s w).length ≤ 54 := stepsM_len
  have hnd := stepsM_nodup s w
  simp [A37]
  try simp 
  repeat' (first
    | (refine CallX.pure (hck) (by simp) (by simp) ?_; try simp )
    | (refine CallK.intro (hck) (by simp) (by simp) ?_; try simp )
    | (refine CallG.intro (fun _ => hck) (by simp) (by simp) ?_; try simp )
    | ((with_reducible refine PreK.intro ?_ ?_); (next => (first | omega | (intros; first | omega | (refine ⟨by omega, ?_⟩; repeat (first | assumption | constructor)) | assumption))); intro _; try simp )
    | fail)
  refine CondK.intro (fun h1 => ?_) (fun h1 => ?_)
  · simp at h1
    simp [ClearR, h1]
  · simp at h1
    have hR : ClearR s w gs = (clearM s w gs, 0) := by simp [ClearR, h1]
    rw [hR]
    generalize hR2 : clearM s w gs = R
    unfold clearM at hR2
    generalize stepsM s w = l at hcd hok hlen hnd hR2
    have hbest := rbest_c s w gs l hs hw (gErr_ok (orderErr_zero h1).2) hgl (by omega) hok hnd
    try simp 
    repeat' (first
      | (refine CallX.pure (hcd) (by simp) (by simp) ?_; try simp )
      | (refine CallK.intro (hcd) (by simp) (by simp) ?_; try simp )
      | (refine CallG.intro (fun _ => hcd) (by simp) (by simp) ?_; try simp )
      | ((with_reducible refine PreK.intro ?_ ?_); (next => (first | omega | (intros; first | omega | (refine ⟨by omega, ?_⟩; repeat (first | assumption | constructor)) | assumption))); intro _; try simp )
      | fail)
    have hcl : (decide ((l.length : Int) < 2) || decide (0 ≤ idxG (topOf s w gs l) 0 l)) = R := by
      rw [idxG_any]
      subst hR2
      match l with
      | [] => simp
      | [x] => simp [bestM, topOf]
      | x :: y :: r =>
        have e : (bestM s w gs (x :: y :: r)).isSome = (x :: y :: r).any (topOf s w gs (x :: y :: r)) := by
          rw [Bool.eq_iff_iff, bestM, List.find?_isSome, List.any_eq_true]
        have e2 : decide (((x :: y :: r).length : Int) < 2) = false := by simp; omega
        rw [e2, Bool.false_or]
        exact e.symm
    try simp 
    repeat' (first
      | (refine CallX.pure (hbest) (by simp) (by simp) ?_; try simp )
      | (refine CallK.intro (hbest) (by simp) (by simp) ?_; try simp )
      | (refine CallG.intro (fun _ => hbest) (by simp) (by simp) ?_; try simp )
      | ((with_reducible refine PreK.intro ?_ ?_); (next => (first | omega | (intros; first | omega | (refine ⟨by omega, ?_⟩; repeat (first | assumption | constructor)) | assumption))); intro _; try simp )
      | fail)
    rw [← hcl]
theorem lawOrderWinners_c (x : Case) (h : x.rules.length ≤ big) : CallP Try.prog 4 [caseV x] (bv true) := by
  refine C4 (by simp) ?_
  simp [A4]
  refine CallX.pure (by simpa using Long_c x h) (by simp) (by simp) ?_
  try simp 
  refine CondK.intro (fun h1 => ?_) (fun h1 => ?_)
  · try simp 
    repeat' (first
      | (refine CallX.pure (sane_c) (by simp) (by simp) ?_; try simp )
      | (refine CallK.intro (sane_c) (by simp) (by simp) ?_; try simp )
      | (refine CallG.intro (fun _ => sane_c) (by simp) (by simp) ?_; try simp )
      | ((with_reducible refine PreK.intro ?_ ?_); (next => (first | omega | (intros; first | omega | (refine ⟨by omega, ?_⟩; repeat (first | assumption | constructor)) | assumption))); intro _; try simp )
      | fail)
  · try simp at h1
    obtain ⟨hs, hw, hg, _⟩ := longC_small h1
    try simp 
    repeat' (first
      | (refine CallX.pure (Winner_c x.rules x.word x.grounds hs hw hg) (by simp) (by simp) ?_; try simp )
      | (refine CallK.intro (Winner_c x.rules x.word x.grounds hs hw hg) (by simp) (by simp) ?_; try simp )
      | (refine CallG.intro (fun _ => Winner_c x.rules x.word x.grounds hs hw hg) (by simp) (by simp) ?_; try simp )
      | ((with_reducible refine PreK.intro ?_ ?_); (next => (first | omega | (intros; first | omega | (refine ⟨by omega, ?_⟩; repeat (first | assumption | constructor)) | assumption))); intro _; try simp )
      | fail)
    try simp 
    repeat' (first
      | (refine CallX.pure (rWinner_c x.rules x.word x.grounds hs hw hg) (by simp) (by simp) ?_; try simp )
      | (refine CallK.intro (rWinner_c x.rules x.word x.grounds hs hw hg) (by simp) (by simp) ?_; try simp )
      | (refine CallG.intro (fun _ => rWinner_c x.rules x.word x.grounds hs hw hg) (by simp) (by simp) ?_; try simp )
      | ((with_reducible refine PreK.intro ?_ ?_); (next => (first | omega | (intros; first | omega | (refine ⟨by omega, ?_⟩; repeat (first | assumption | constructor)) | assumption))); intro _; try simp )
      | fail)
    try simp 
    repeat' (first
      | (refine CallX.pure (IsClear_c x.rules x.word x.grounds hs hw hg) (by simp) (by simp) ?_; try simp )
      | (refine CallK.intro (IsClear_c x.rules x.word x.grounds hs hw hg) (by simp) (by simp) ?_; try simp )
      | (refine CallG.intro (fun _ => IsClear_c x.rules x.word x.grounds hs hw hg) (by simp) (by simp) ?_; try simp )
      | ((with_reducible refine PreK.intro ?_ ?_); (next => (first | omega | (intros; first | omega | (refine ⟨by omega, ?_⟩; repeat (first | assumption | constructor)) | assumption))); intro _; try simp )
      | fail)
    try simp 
    repeat' (first
      | (refine CallX.pure (rIsClear_c x.rules x.word x.grounds hs hw hg) (by simp) (by simp) ?_; try simp )
      | (refine CallK.intro (rIsClear_c x.rules x.word x.grounds hs hw hg) (by simp) (by simp) ?_; try simp )
      | (refine CallG.intro (fun _ => rIsClear_c x.rules x.word x.grounds hs hw hg) (by simp) (by simp) ?_; try simp )
      | ((with_reducible refine PreK.intro ?_ ?_); (next => (first | omega | (intros; first | omega | (refine ⟨by omega, ?_⟩; repeat (first | assumption | constructor)) | assumption))); intro _; try simp )
      | fail)
    try simp 
    repeat' (first
      | (refine CallX.pure (sane_c) (by simp) (by simp) ?_; try simp )
      | (refine CallK.intro (sane_c) (by simp) (by simp) ?_; try simp )
      | (refine CallG.intro (fun _ => sane_c) (by simp) (by simp) ?_; try simp )
      | ((with_reducible refine PreK.intro ?_ ?_); (next => (first | omega | (intros; first | omega | (refine ⟨by omega, ?_⟩; repeat (first | assumption | constructor)) | assumption))); intro _; try simp )
      | fail)
end Go.Proofs.Ytaooenmkofjafaa
end
