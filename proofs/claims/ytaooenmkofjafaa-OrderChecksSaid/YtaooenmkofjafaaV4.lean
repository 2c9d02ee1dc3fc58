/- Part 4 of the proof: the value layer and the contracts of the functions that the statement reaches; proved without conditions beyond those each theorem states. -/
import Derived.Test.YtaooenmkofjafaaV3
set_option linter.unusedSimpArgs false
set_option linter.unusedVariables false

section
/- Functions of the cut as the value layer reads them. (written by gen.py) -/
set_option maxRecDepth 20000
namespace Go.Proofs.Ytaooenmkofjafaa
open Go.Abs Go

/-- vyakarana order.Derive -/
def A29 : ACode :=
  (.seq (.reg [] [⟨some 6, (.assign (.const (.slice none 0 0))), 28, none⟩,
      ⟨some 7, (.assign (.const (.slice none 0 0))), 23, none⟩,
      ⟨some 8, (.assign (.const (.int .i64 0))), 29, none⟩])
    (.seq (.seq (.reg [] [⟨some 10, (.move (.tmp 0)), 22, none⟩,
      ⟨some 11, (.move (.tmp 1)), 23, none⟩,
      ⟨some 12, (.move (.tmp 2)), 23, none⟩,
      ⟨some 13, (.buildSlice 62 1 #[(0, (.tmp 12))]), 62, none⟩,
      ⟨some 14, (.call ⟨(.value (.func 107)), #[(.tmp 10), (.tmp 11), (.tmp 13)], #[22, 23, 62]⟩), 29, none⟩,
      ⟨some 9, (.assign (.tmp 14)), 29, none⟩])
    (.seq (.reg [] [⟨some 15, (.move (.tmp 9)), 29, none⟩,
      ⟨some 16, (.binOp .neq 29 (.tmp 15) (.const (.int .i64 0)) 29), 4, none⟩])
    (.cond (.tmp 16)
    (.seq (.reg [] [⟨some 17, (.move (.tmp 9)), 29, none⟩,
      ⟨some 6, (.assign (.const (.slice none 0 0))), 28, none⟩,
      ⟨some 7, (.assign (.const (.slice none 0 0))), 23, none⟩,
      ⟨some 8, (.assign (.tmp 17)), 29, none⟩])
    .ret)
    .skip)))
    (.seq (.reg [] [⟨some 18, (.move (.tmp 0)), 22, none⟩,
      ⟨some 19, (.move (.tmp 1)), 23, none⟩,
      ⟨some 20, (.move (.tmp 2)), 23, none⟩,
      ⟨some 21, (.call ⟨(.value (.func 108)), #[(.tmp 18), (.tmp 19), (.tmp 20)], #[22, 23, 23]⟩), 30, none⟩,
      ⟨some 22, (.extract (.tmp 21) 0), 28, none⟩,
      ⟨some 23, (.extract (.tmp 21) 1), 23, none⟩,
      ⟨some 24, (.extract (.tmp 21) 2), 29, none⟩,
      ⟨some 6, (.assign (.tmp 22)), 28, none⟩,
      ⟨some 7, (.assign (.tmp 23)), 23, none⟩,
      ⟨some 8, (.assign (.tmp 24)), 29, none⟩])
    .ret)))
theorem C29 {args : List AV} {r : AV} (hn : args.length ≤ 25) (h : vc Try.prog T [] A29 (Fin T [(.tmp 6), (.tmp 7), (.tmp 8)] r) ⟨envOf 0 args, []⟩) : CallP Try.prog 29 args r :=
  callP_of tok mixed Try.func29 (by kernel_rfl) (by kernel_rfl) (by kernel_rfl : Try.f29.ntmps = 25) (by kernel_rfl : Try.f29.body.bind (strip 25 (fun _ => [])) = some A29) hn h
theorem CO29 {args : List AV} {sz : Nat} {els : List AV} (hn : args.length ≤ 25) (h : vc Try.prog T [] A29 (FinO [(.tmp 6), (.tmp 7), (.tmp 8)] sz els) ⟨envOf 0 args, []⟩) : CallO Try.prog 29 args sz els :=
  callO_of tok mixed Try.func29 (by kernel_rfl) (by kernel_rfl) (by kernel_rfl : Try.f29.ntmps = 25) (by kernel_rfl : Try.f29.body.bind (strip 25 (fun _ => [])) = some A29) hn h
theorem CL29 {pre suf : List AV} {sz : Nat} {els els' : List AV} {r : LRet} (hn : (pre ++ .sl lid 0 0 els.length :: suf).length ≤ 25) (h : vc Try.prog T [] A29 (FinL T [(.tmp 6), (.tmp 7), (.tmp 8)] sz r els') ⟨envOf 0 (pre ++ .sl lid 0 0 els.length :: suf), [(lid, some ⟨sz, els, 0, false⟩)]⟩) : CallL Try.prog 29 pre sz els suf r els' :=
  callL_of tok mixed Try.func29 (by kernel_rfl) (by kernel_rfl) (by kernel_rfl : Try.f29.ntmps = 25) (by kernel_rfl : Try.f29.body.bind (strip 25 (fun _ => [])) = some A29) hn h

/-- vyakarana vyakaranaref04.Derive -/
def A30 : ACode :=
  (.seq (.reg [] [⟨some 6, (.assign (.const (.slice none 0 0))), 28, none⟩,
      ⟨some 7, (.assign (.const (.slice none 0 0))), 23, none⟩,
      ⟨some 8, (.assign (.const (.int .i64 0))), 29, none⟩])
    (.seq (.reg [] [⟨some 13, (.move (.tmp 0)), 22, none⟩,
      ⟨some 14, (.move (.tmp 1)), 23, none⟩,
      ⟨some 15, (.move (.tmp 2)), 23, none⟩,
      ⟨some 16, (.call ⟨(.value (.func 109)), #[(.tmp 13), (.tmp 14), (.tmp 15)], #[22, 23, 23]⟩), 29, none⟩,
      ⟨some 9, (.assign (.tmp 16)), 29, none⟩])
    (.seq (.seq (.reg [] [⟨some 17, (.move (.tmp 9)), 29, none⟩,
      ⟨some 18, (.binOp .neq 29 (.tmp 17) (.const (.int .i64 0)) 29), 4, none⟩])
    (.cond (.tmp 18)
    (.seq (.reg [] [⟨some 19, (.move (.tmp 9)), 29, none⟩,
      ⟨some 6, (.assign (.const (.slice none 0 0))), 28, none⟩,
      ⟨some 7, (.assign (.const (.slice none 0 0))), 23, none⟩,
      ⟨some 8, (.assign (.tmp 19)), 29, none⟩])
    .ret)
    .skip))
    (.seq (.reg [] [⟨some 21, (.move (.tmp 0)), 22, none⟩,
      ⟨some 22, (.move (.tmp 1)), 23, none⟩,
      ⟨some 23, (.move (.tmp 2)), 23, none⟩,
      ⟨some 24, (.call ⟨(.value (.func 110)), #[(.tmp 21), (.tmp 22), (.tmp 23)], #[22, 23, 23]⟩), 113, none⟩,
      ⟨some 20, (.move (.tmp 24)), 113, none⟩,
      ⟨some 25, (.extract (.tmp 20) 0), 28, none⟩,
      ⟨some 26, (.extract (.tmp 20) 1), 23, none⟩,
      ⟨some 27, (.extract (.tmp 20) 2), 4, none⟩,
      ⟨some 10, (.assign (.tmp 25)), 28, none⟩,
      ⟨some 11, (.assign (.tmp 26)), 23, none⟩,
      ⟨some 12, (.assign (.tmp 27)), 4, none⟩])
    (.seq (.seq (.reg [] [⟨some 28, (.move (.tmp 12)), 4, none⟩,
      ⟨some 29, (.unOp .not 4 (.tmp 28)), 4, none⟩])
    (.cond (.tmp 29)
    (.seq (.reg [] [⟨some 6, (.assign (.const (.slice none 0 0))), 28, none⟩,
      ⟨some 7, (.assign (.const (.slice none 0 0))), 23, none⟩,
      ⟨some 8, (.assign (.const (.int .i64 3))), 29, none⟩])
    .ret)
    .skip))
    (.seq (.reg [] [⟨some 30, (.move (.tmp 10)), 28, none⟩,
      ⟨some 31, (.buildSlice 23 0 #[]), 23, none⟩,
      ⟨some 32, (.move (.tmp 11)), 23, none⟩,
      ⟨some 33, (.call ⟨(.builtin .append), #[(.tmp 31), (.tmp 32)], #[23, 23]⟩), 23, none⟩,
      ⟨some 6, (.assign (.tmp 30)), 28, none⟩,
      ⟨some 7, (.assign (.tmp 33)), 23, none⟩,
      ⟨some 8, (.assign (.const (.int .i64 0))), 29, none⟩])
    .ret))))))
theorem C30 {args : List AV} {r : AV} (hn : args.length ≤ 34) (h : vc Try.prog T [] A30 (Fin T [(.tmp 6), (.tmp 7), (.tmp 8)] r) ⟨envOf 0 args, []⟩) : CallP Try.prog 30 args r :=
  callP_of tok mixed Try.func30 (by kernel_rfl) (by kernel_rfl) (by kernel_rfl : Try.f30.ntmps = 34) (by kernel_rfl : Try.f30.body.bind (strip 34 (fun _ => [])) = some A30) hn h
theorem CO30 {args : List AV} {sz : Nat} {els : List AV} (hn : args.length ≤ 34) (h : vc Try.prog T [] A30 (FinO [(.tmp 6), (.tmp 7), (.tmp 8)] sz els) ⟨envOf 0 args, []⟩) : CallO Try.prog 30 args sz els :=
  callO_of tok mixed Try.func30 (by kernel_rfl) (by kernel_rfl) (by kernel_rfl : Try.f30.ntmps = 34) (by kernel_rfl : Try.f30.body.bind (strip 34 (fun _ => [])) = some A30) hn h
theorem CL30 {pre suf : List AV} {sz : Nat} {els els' : List AV} {r : LRet} (hn : (pre ++ .sl lid 0 0 els.length :: suf).length ≤ 34) (h : vc Try.prog T [] A30 (FinL T [(.tmp 6), (.tmp 7), (.tmp 8)] sz r els') ⟨envOf 0 (pre ++ .sl lid 0 0 els.length :: suf), [(lid, some ⟨sz, els, 0, false⟩)]⟩) : CallL Try.prog 30 pre sz els suf r els' :=
  callL_of tok mixed Try.func30 (by kernel_rfl) (by kernel_rfl) (by kernel_rfl : Try.f30.ntmps = 34) (by kernel_rfl : Try.f30.body.bind (strip 34 (fun _ => [])) = some A30) hn h

/-- vyakarana order.Validate -/
def A52 : ACode :=
  (.seq (.reg [] [⟨some 2, (.assign (.const (.int .i64 0))), 29, none⟩])
    (.seq (.seq (.reg [] [⟨some 5, (.move (.tmp 0)), 23, none⟩,
      ⟨some 6, (.call ⟨(.builtin .len), #[(.tmp 5)], #[23]⟩), 3, none⟩,
      ⟨some 7, (.binOp .gtr 3 (.tmp 6) (.const (.int .i64 4)) 3), 4, none⟩])
    (.cond (.tmp 7)
    (.seq (.reg [] [⟨some 2, (.assign (.const (.int .i64 3))), 29, none⟩])
    .ret)
    .skip))
    (.seq (.seq (.reg [] [⟨some 8, (.move (.tmp 0)), 23, none⟩,
      ⟨some 9, (.call ⟨(.value (.func 132)), #[(.tmp 8), (.func 133)], #[23, 139]⟩), 4, none⟩])
    (.cond (.tmp 9)
    (.seq (.reg [] [⟨some 2, (.assign (.const (.int .i64 1))), 29, none⟩])
    .ret)
    .skip))
    (.seq (.seq (.reg [] [⟨some 10, (.move (.tmp 0)), 23, none⟩,
      ⟨some 11, (.call ⟨(.builtin .len), #[(.tmp 10)], #[23]⟩), 3, none⟩,
      ⟨some 12, (.move (.const (.int .i64 0))), 3, none⟩])
    (.block 0 (.loop (.seq (.reg [] [⟨some 13, (.binOp .lss 3 (.tmp 12) (.tmp 11) 3), 0, none⟩])
    (.seq (.cond (.tmp 13)
    .skip
    (.exit 0))
    (.seq (.block 1 (.seq (.reg [] [⟨some 14, (.move (.tmp 12)), 3, none⟩,
      ⟨some 15, (.indexAddr 23 (.tmp 10) (.tmp 12)), 0, none⟩,
      ⟨some 16, (.load 3 (.tmp 15)), 3, none⟩,
      ⟨some 3, (.assign (.tmp 14)), 3, none⟩,
      ⟨some 4, (.assign (.tmp 16)), 3, none⟩])
    (.seq (.reg [] [⟨some 17, (.move (.tmp 0)), 23, none⟩,
      ⟨some 18, (.move (.tmp 3)), 3, none⟩,
      ⟨some 19, (.slice 23 (.tmp 17) none (some (.tmp 18)) none), 23, none⟩,
      ⟨some 20, (.move (.tmp 4)), 3, none⟩,
      ⟨some 21, (.call ⟨(.value (.func 134)), #[(.tmp 19), (.tmp 20)], #[23, 3]⟩), 4, none⟩])
    (.cond (.tmp 21)
    (.seq (.reg [] [⟨some 2, (.assign (.const (.int .i64 5))), 29, none⟩])
    .ret)
    .skip))))
    (.reg [] [⟨some 22, (.binOp .add 3 (.tmp 12) (.const (.int .i64 1)) 3), 3, none⟩,
      ⟨some 12, (.move (.tmp 22)), 3, none⟩])))))))
    (.seq (.reg [] [⟨some 2, (.assign (.const (.int .i64 0))), 29, none⟩])
    .ret)))))
theorem C52 {args : List AV} {r : AV} (hn : args.length ≤ 23) (h : vc Try.prog T [] A52 (Fin T [(.tmp 2)] r) ⟨envOf 0 args, []⟩) : CallP Try.prog 52 args r :=
  callP_of tok mixed Try.func52 (by kernel_rfl) (by kernel_rfl) (by kernel_rfl : Try.f52.ntmps = 23) (by kernel_rfl : Try.f52.body.bind (strip 23 (fun _ => [])) = some A52) hn h
theorem CO52 {args : List AV} {sz : Nat} {els : List AV} (hn : args.length ≤ 23) (h : vc Try.prog T [] A52 (FinO [(.tmp 2)] sz els) ⟨envOf 0 args, []⟩) : CallO Try.prog 52 args sz els :=
  callO_of tok mixed Try.func52 (by kernel_rfl) (by kernel_rfl) (by kernel_rfl : Try.f52.ntmps = 23) (by kernel_rfl : Try.f52.body.bind (strip 23 (fun _ => [])) = some A52) hn h
theorem CL52 {pre suf : List AV} {sz : Nat} {els els' : List AV} {r : LRet} (hn : (pre ++ .sl lid 0 0 els.length :: suf).length ≤ 23) (h : vc Try.prog T [] A52 (FinL T [(.tmp 2)] sz r els') ⟨envOf 0 (pre ++ .sl lid 0 0 els.length :: suf), [(lid, some ⟨sz, els, 0, false⟩)]⟩) : CallL Try.prog 52 pre sz els suf r els' :=
  callL_of tok mixed Try.func52 (by kernel_rfl) (by kernel_rfl) (by kernel_rfl : Try.f52.ntmps = 23) (by kernel_rfl : Try.f52.body.bind (strip 23 (fun _ => [])) = some A52) hn h

/-- vyakarana vyakaranalaw04.sane -/
def A28 : ACode :=
  (.seq (.reg [] [⟨some 0, (.assign (.const (.bool false))), 4, none⟩])
    (.seq (.reg [] [⟨some 5, (.buildSlice 23 1 #[(0, (.const (.int .i64 1)))]), 23, none⟩,
      ⟨some 6, (.build 72 #[(0, (.const (.int .i64 0))), (1, (.tmp 5))]), 72, none⟩,
      ⟨some 7, (.buildSlice 23 1 #[(0, (.const (.int .i64 2)))]), 23, none⟩,
      ⟨some 8, (.build 72 #[(0, (.const (.int .i64 0))), (1, (.tmp 7))]), 72, none⟩,
      ⟨some 9, (.buildSlice 22 2 #[(0, (.tmp 6)), (1, (.tmp 8))]), 22, none⟩,
      ⟨some 1, (.assign (.tmp 9)), 22, none⟩])
    (.seq (.reg [] [⟨some 11, (.move (.tmp 1)), 22, none⟩,
      ⟨some 12, (.buildSlice 23 2 #[(0, (.const (.int .i64 0))), (1, (.const (.int .i64 0)))]), 23, none⟩,
      ⟨some 13, (.buildSlice 23 2 #[(0, (.const (.int .i64 3))), (1, (.const (.int .i64 4)))]), 23, none⟩,
      ⟨some 14, (.call ⟨(.value (.func 29)), #[(.tmp 11), (.tmp 12), (.tmp 13)], #[22, 23, 23]⟩), 30, none⟩,
      ⟨some 10, (.move (.tmp 14)), 30, none⟩,
      ⟨some 15, (.extract (.tmp 10) 0), 28, none⟩,
      ⟨some 16, (.extract (.tmp 10) 1), 23, none⟩,
      ⟨some 17, (.extract (.tmp 10) 2), 29, none⟩,
      ⟨some 2, (.assign (.tmp 15)), 28, none⟩,
      ⟨some 3, (.assign (.tmp 16)), 23, none⟩,
      ⟨some 4, (.assign (.tmp 17)), 29, none⟩])
    (.seq (.reg [] [⟨some 18, (.move (.tmp 4)), 29, none⟩,
      ⟨some 19, (.binOp .eql 29 (.tmp 18) (.const (.int .i64 0)) 29), 4, none⟩,
      ⟨some 20, (.move (.tmp 19)), 4, none⟩,
      ⟨some 21, (.move (.tmp 2)), 28, some (20, true)⟩,
      ⟨some 22, (.build 37 #[(0, (.const (.int .i64 1))), (1, (.const (.int .i64 0))), (2, (.const (.int .i64 4)))]), 37, some (20, true)⟩,
      ⟨some 23, (.build 37 #[(0, (.const (.int .i64 1))), (1, (.const (.int .i64 1))), (2, (.const (.int .i64 4)))]), 37, some (20, true)⟩,
      ⟨some 24, (.buildSlice 28 2 #[(0, (.tmp 22)), (1, (.tmp 23))]), 28, some (20, true)⟩,
      ⟨some 25, (.call ⟨(.value (.func 32)), #[(.tmp 21), (.tmp 24)], #[28, 28]⟩), 4, some (20, true)⟩,
      ⟨some 26, (.pick (.tmp 20) (.tmp 25) (.const (.bool false))), 4, none⟩,
      ⟨some 27, (.move (.tmp 26)), 4, none⟩,
      ⟨some 28, (.move (.tmp 3)), 23, some (27, true)⟩,
      ⟨some 29, (.buildSlice 23 2 #[(0, (.const (.int .i64 2))), (1, (.const (.int .i64 2)))]), 23, some (27, true)⟩,
      ⟨some 30, (.call ⟨(.value (.func 33)), #[(.tmp 28), (.tmp 29)], #[23, 23]⟩), 4, some (27, true)⟩,
      ⟨some 31, (.pick (.tmp 27) (.tmp 30) (.const (.bool false))), 4, none⟩,
      ⟨some 0, (.assign (.tmp 31)), 4, none⟩])
    .ret))))
theorem C28 {args : List AV} {r : AV} (hn : args.length ≤ 32) (h : vc Try.prog T [] A28 (Fin T [(.tmp 0)] r) ⟨envOf 0 args, []⟩) : CallP Try.prog 28 args r :=
  callP_of tok mixed Try.func28 (by kernel_rfl) (by kernel_rfl) (by kernel_rfl : Try.f28.ntmps = 32) (by kernel_rfl : Try.f28.body.bind (strip 32 (fun _ => [])) = some A28) hn h
theorem CO28 {args : List AV} {sz : Nat} {els : List AV} (hn : args.length ≤ 32) (h : vc Try.prog T [] A28 (FinO [(.tmp 0)] sz els) ⟨envOf 0 args, []⟩) : CallO Try.prog 28 args sz els :=
  callO_of tok mixed Try.func28 (by kernel_rfl) (by kernel_rfl) (by kernel_rfl : Try.f28.ntmps = 32) (by kernel_rfl : Try.f28.body.bind (strip 32 (fun _ => [])) = some A28) hn h
theorem CL28 {pre suf : List AV} {sz : Nat} {els els' : List AV} {r : LRet} (hn : (pre ++ .sl lid 0 0 els.length :: suf).length ≤ 32) (h : vc Try.prog T [] A28 (FinL T [(.tmp 0)] sz r els') ⟨envOf 0 (pre ++ .sl lid 0 0 els.length :: suf), [(lid, some ⟨sz, els, 0, false⟩)]⟩) : CallL Try.prog 28 pre sz els suf r els' :=
  callL_of tok mixed Try.func28 (by kernel_rfl) (by kernel_rfl) (by kernel_rfl : Try.f28.ntmps = 32) (by kernel_rfl : Try.f28.body.bind (strip 32 (fun _ => [])) = some A28) hn h

/-- vyakarana order.Form -/
def A31 : ACode :=
  (.seq (.reg [] [⟨some 6, (.assign (.const (.slice none 0 0))), 23, none⟩,
      ⟨some 7, (.assign (.const (.int .i64 0))), 29, none⟩])
    (.seq (.reg [] [⟨some 12, (.move (.tmp 0)), 22, none⟩,
      ⟨some 13, (.move (.tmp 1)), 23, none⟩,
      ⟨some 14, (.move (.tmp 2)), 23, none⟩,
      ⟨some 15, (.call ⟨(.value (.func 29)), #[(.tmp 12), (.tmp 13), (.tmp 14)], #[22, 23, 23]⟩), 30, none⟩,
      ⟨some 11, (.move (.tmp 15)), 30, none⟩,
      ⟨some 16, (.extract (.tmp 11) 0), 28, none⟩,
      ⟨some 17, (.extract (.tmp 11) 1), 23, none⟩,
      ⟨some 18, (.extract (.tmp 11) 2), 29, none⟩,
      ⟨some 8, (.assign (.tmp 16)), 28, none⟩,
      ⟨some 9, (.assign (.tmp 17)), 23, none⟩,
      ⟨some 10, (.assign (.tmp 18)), 29, none⟩])
    (.seq (.reg [] [⟨some 19, (.move (.tmp 9)), 23, none⟩,
      ⟨some 20, (.move (.tmp 10)), 29, none⟩,
      ⟨some 6, (.assign (.tmp 19)), 23, none⟩,
      ⟨some 7, (.assign (.tmp 20)), 29, none⟩])
    .ret)))
theorem C31 {args : List AV} {r : AV} (hn : args.length ≤ 21) (h : vc Try.prog T [] A31 (Fin T [(.tmp 6), (.tmp 7)] r) ⟨envOf 0 args, []⟩) : CallP Try.prog 31 args r :=
  callP_of tok mixed Try.func31 (by kernel_rfl) (by kernel_rfl) (by kernel_rfl : Try.f31.ntmps = 21) (by kernel_rfl : Try.f31.body.bind (strip 21 (fun _ => [])) = some A31) hn h
theorem CO31 {args : List AV} {sz : Nat} {els : List AV} (hn : args.length ≤ 21) (h : vc Try.prog T [] A31 (FinO [(.tmp 6), (.tmp 7)] sz els) ⟨envOf 0 args, []⟩) : CallO Try.prog 31 args sz els :=
  callO_of tok mixed Try.func31 (by kernel_rfl) (by kernel_rfl) (by kernel_rfl : Try.f31.ntmps = 21) (by kernel_rfl : Try.f31.body.bind (strip 21 (fun _ => [])) = some A31) hn h
theorem CL31 {pre suf : List AV} {sz : Nat} {els els' : List AV} {r : LRet} (hn : (pre ++ .sl lid 0 0 els.length :: suf).length ≤ 21) (h : vc Try.prog T [] A31 (FinL T [(.tmp 6), (.tmp 7)] sz r els') ⟨envOf 0 (pre ++ .sl lid 0 0 els.length :: suf), [(lid, some ⟨sz, els, 0, false⟩)]⟩) : CallL Try.prog 31 pre sz els suf r els' :=
  callL_of tok mixed Try.func31 (by kernel_rfl) (by kernel_rfl) (by kernel_rfl : Try.f31.ntmps = 21) (by kernel_rfl : Try.f31.body.bind (strip 21 (fun _ => [])) = some A31) hn h

/-- vyakarana vyakaranaref04.SameChoices -/
def A32 : ACode :=
  (.seq (.reg [] [⟨some 4, (.assign (.const (.bool false))), 4, none⟩])
    (.seq (.seq (.reg [] [⟨some 6, (.move (.tmp 0)), 28, none⟩,
      ⟨some 7, (.call ⟨(.builtin .len), #[(.tmp 6)], #[28]⟩), 3, none⟩,
      ⟨some 8, (.move (.tmp 1)), 28, none⟩,
      ⟨some 9, (.call ⟨(.builtin .len), #[(.tmp 8)], #[28]⟩), 3, none⟩,
      ⟨some 10, (.binOp .neq 3 (.tmp 7) (.tmp 9) 3), 4, none⟩])
    (.cond (.tmp 10)
    (.seq (.reg [] [⟨some 4, (.assign (.const (.bool false))), 4, none⟩])
    .ret)
    .skip))
    (.seq (.seq (.reg [] [⟨some 5, (.assign (.const (.int .i64 0))), 3, none⟩])
    (.block 0 (.loop (.seq (.seq (.reg [] [⟨some 11, (.move (.tmp 5)), 3, none⟩,
      ⟨some 12, (.move (.tmp 0)), 28, none⟩,
      ⟨some 13, (.call ⟨(.builtin .len), #[(.tmp 12)], #[28]⟩), 3, none⟩,
      ⟨some 14, (.binOp .lss 3 (.tmp 11) (.tmp 13) 3), 4, none⟩])
    (.cond (.tmp 14)
    .skip
    (.exit 0)))
    (.seq (.block 1 (.seq (.draw [] [⟨some 17, (.move (.tmp 0)), 28, none⟩,
      ⟨some 18, (.move (.tmp 5)), 3, none⟩,
      ⟨some 19, (.indexAddr 28 (.tmp 17) (.tmp 18)), 0, none⟩,
      ⟨some 20, (.load 37 (.tmp 19)), 37, none⟩,
      ⟨some 21, (.move (.tmp 1)), 28, none⟩,
      ⟨some 22, (.move (.tmp 5)), 3, none⟩,
      ⟨some 23, (.indexAddr 28 (.tmp 21) (.tmp 22)), 0, none⟩,
      ⟨some 24, (.load 37 (.tmp 23)), 37, none⟩,
      ⟨some 25, (.binOp .neq 37 (.tmp 20) (.tmp 24) 37), 4, none⟩] [(0, 1), (0, 4), (1, 4), (2, 4), (3, 4), (0, 5), (1, 5), (2, 5), (3, 5), (4, 5), (0, 6), (1, 6), (2, 6), (3, 6), (0, 7), (1, 7), (2, 7), (3, 7)])
    (.cond (.tmp 25)
    (.seq (.reg [] [⟨some 4, (.assign (.const (.bool false))), 4, none⟩])
    .ret)
    .skip)))
    (.reg [] [⟨some 15, (.move (.tmp 5)), 3, none⟩,
      ⟨some 16, (.binOp .add 3 (.tmp 15) (.const (.int .i64 1)) 3), 3, none⟩,
      ⟨some 5, (.assign (.tmp 16)), 3, none⟩]))))))
    (.seq (.reg [] [⟨some 4, (.assign (.const (.bool true))), 4, none⟩])
    .ret))))
theorem C32 {args : List AV} {r : AV} (hn : args.length ≤ 26) (h : vc Try.prog T [] A32 (Fin T [(.tmp 4)] r) ⟨envOf 0 args, []⟩) : CallP Try.prog 32 args r :=
  callP_of tok mixed Try.func32 (by kernel_rfl) (by kernel_rfl) (by kernel_rfl : Try.f32.ntmps = 26) (by kernel_rfl : Try.f32.body.bind (strip 26 (fun _ => [])) = some A32) hn h
theorem CO32 {args : List AV} {sz : Nat} {els : List AV} (hn : args.length ≤ 26) (h : vc Try.prog T [] A32 (FinO [(.tmp 4)] sz els) ⟨envOf 0 args, []⟩) : CallO Try.prog 32 args sz els :=
  callO_of tok mixed Try.func32 (by kernel_rfl) (by kernel_rfl) (by kernel_rfl : Try.f32.ntmps = 26) (by kernel_rfl : Try.f32.body.bind (strip 26 (fun _ => [])) = some A32) hn h
theorem CL32 {pre suf : List AV} {sz : Nat} {els els' : List AV} {r : LRet} (hn : (pre ++ .sl lid 0 0 els.length :: suf).length ≤ 26) (h : vc Try.prog T [] A32 (FinL T [(.tmp 4)] sz r els') ⟨envOf 0 (pre ++ .sl lid 0 0 els.length :: suf), [(lid, some ⟨sz, els, 0, false⟩)]⟩) : CallL Try.prog 32 pre sz els suf r els' :=
  callL_of tok mixed Try.func32 (by kernel_rfl) (by kernel_rfl) (by kernel_rfl : Try.f32.ntmps = 26) (by kernel_rfl : Try.f32.body.bind (strip 26 (fun _ => [])) = some A32) hn h

/-- vyakarana feed.Validate -/
def A83 : ACode :=
  (.seq (.reg [] [⟨some 2, (.assign (.const (.int .i64 0))), 29, none⟩])
    (.seq (.seq (.reg [] [⟨some 6, (.move (.tmp 0)), 22, none⟩,
      ⟨some 7, (.call ⟨(.builtin .len), #[(.tmp 6)], #[22]⟩), 3, none⟩,
      ⟨some 8, (.binOp .gtr 3 (.tmp 7) (.const (.int .i64 6)) 3), 4, none⟩])
    (.cond (.tmp 8)
    (.seq (.reg [] [⟨some 2, (.assign (.const (.int .i64 3))), 29, none⟩])
    .ret)
    .skip))
    (.seq (.seq (.reg [] [⟨some 9, (.move (.tmp 0)), 22, none⟩,
      ⟨some 10, (.call ⟨(.builtin .len), #[(.tmp 9)], #[22]⟩), 3, none⟩,
      ⟨some 11, (.move (.const (.int .i64 0))), 3, none⟩])
    (.block 0 (.loop (.seq (.reg [] [⟨some 12, (.binOp .lss 3 (.tmp 11) (.tmp 10) 3), 0, none⟩])
    (.seq (.cond (.tmp 12)
    .skip
    (.exit 0))
    (.seq (.block 1 (.seq (.reg [] [⟨some 13, (.indexAddr 22 (.tmp 9) (.tmp 11)), 0, none⟩,
      ⟨some 14, (.load 72 (.tmp 13)), 72, none⟩,
      ⟨some 4, (.alloc 72), 0, none⟩,
      ⟨none, (.store 72 (.tmp 4) (.tmp 14)), 0, none⟩])
    (.seq (.reg [] [⟨some 15, (.load 72 (.tmp 4)), 72, none⟩,
      ⟨some 16, (.call ⟨(.value (.func 150)), #[(.tmp 15)], #[72]⟩), 29, none⟩,
      ⟨some 5, (.assign (.tmp 16)), 29, none⟩])
    (.seq (.reg [] [⟨some 17, (.move (.tmp 5)), 29, none⟩,
      ⟨some 18, (.binOp .neq 29 (.tmp 17) (.const (.int .i64 0)) 29), 4, none⟩])
    (.cond (.tmp 18)
    (.seq (.reg [] [⟨some 19, (.move (.tmp 5)), 29, none⟩,
      ⟨some 2, (.assign (.tmp 19)), 29, none⟩])
    .ret)
    .skip)))))
    (.reg [] [⟨some 20, (.binOp .add 3 (.tmp 11) (.const (.int .i64 1)) 3), 3, none⟩,
      ⟨some 11, (.move (.tmp 20)), 3, none⟩])))))))
    (.seq (.reg [] [⟨some 2, (.assign (.const (.int .i64 0))), 29, none⟩])
    .ret))))
theorem C83 {args : List AV} {r : AV} (hn : args.length ≤ 21) (h : vc Try.prog T [] A83 (Fin T [(.tmp 2)] r) ⟨envOf 0 args, []⟩) : CallP Try.prog 83 args r :=
  callP_of tok mixed Try.func83 (by kernel_rfl) (by kernel_rfl) (by kernel_rfl : Try.f83.ntmps = 21) (by kernel_rfl : Try.f83.body.bind (strip 21 (fun _ => [])) = some A83) hn h
theorem CO83 {args : List AV} {sz : Nat} {els : List AV} (hn : args.length ≤ 21) (h : vc Try.prog T [] A83 (FinO [(.tmp 2)] sz els) ⟨envOf 0 args, []⟩) : CallO Try.prog 83 args sz els :=
  callO_of tok mixed Try.func83 (by kernel_rfl) (by kernel_rfl) (by kernel_rfl : Try.f83.ntmps = 21) (by kernel_rfl : Try.f83.body.bind (strip 21 (fun _ => [])) = some A83) hn h
theorem CL83 {pre suf : List AV} {sz : Nat} {els els' : List AV} {r : LRet} (hn : (pre ++ .sl lid 0 0 els.length :: suf).length ≤ 21) (h : vc Try.prog T [] A83 (FinL T [(.tmp 2)] sz r els') ⟨envOf 0 (pre ++ .sl lid 0 0 els.length :: suf), [(lid, some ⟨sz, els, 0, false⟩)]⟩) : CallL Try.prog 83 pre sz els suf r els' :=
  callL_of tok mixed Try.func83 (by kernel_rfl) (by kernel_rfl) (by kernel_rfl : Try.f83.ntmps = 21) (by kernel_rfl : Try.f83.body.bind (strip 21 (fun _ => [])) = some A83) hn h

/-- vyakarana vyakaranaref03.Validate -/
def A84 : ACode :=
  (.seq (.reg [] [⟨some 2, (.assign (.const (.int .i64 0))), 29, none⟩])
    (.seq (.seq (.reg [] [⟨some 5, (.move (.tmp 0)), 22, none⟩,
      ⟨some 6, (.call ⟨(.builtin .len), #[(.tmp 5)], #[22]⟩), 3, none⟩,
      ⟨some 7, (.binOp .gtr 3 (.tmp 6) (.const (.int .i64 6)) 3), 4, none⟩])
    (.cond (.tmp 7)
    (.seq (.reg [] [⟨some 2, (.assign (.const (.int .i64 3))), 29, none⟩])
    .ret)
    .skip))
    (.seq (.seq (.reg [] [⟨some 3, (.assign (.const (.int .i64 0))), 3, none⟩])
    (.block 0 (.loop (.seq (.seq (.reg [] [⟨some 8, (.move (.tmp 3)), 3, none⟩,
      ⟨some 9, (.move (.tmp 0)), 22, none⟩,
      ⟨some 10, (.call ⟨(.builtin .len), #[(.tmp 9)], #[22]⟩), 3, none⟩,
      ⟨some 11, (.binOp .lss 3 (.tmp 8) (.tmp 10) 3), 4, none⟩])
    (.cond (.tmp 11)
    .skip
    (.exit 0)))
    (.seq (.block 1 (.seq (.reg [] [⟨some 14, (.move (.tmp 0)), 22, none⟩,
      ⟨some 15, (.move (.tmp 3)), 3, none⟩,
      ⟨some 16, (.indexAddr 22 (.tmp 14) (.tmp 15)), 0, none⟩,
      ⟨some 17, (.load 72 (.tmp 16)), 72, none⟩,
      ⟨some 18, (.call ⟨(.value (.func 165)), #[(.tmp 17)], #[72]⟩), 29, none⟩,
      ⟨some 4, (.assign (.tmp 18)), 29, none⟩])
    (.seq (.reg [] [⟨some 19, (.move (.tmp 4)), 29, none⟩,
      ⟨some 20, (.binOp .neq 29 (.tmp 19) (.const (.int .i64 0)) 29), 4, none⟩])
    (.cond (.tmp 20)
    (.seq (.reg [] [⟨some 21, (.move (.tmp 4)), 29, none⟩,
      ⟨some 2, (.assign (.tmp 21)), 29, none⟩])
    .ret)
    .skip))))
    (.reg [] [⟨some 12, (.move (.tmp 3)), 3, none⟩,
      ⟨some 13, (.binOp .add 3 (.tmp 12) (.const (.int .i64 1)) 3), 3, none⟩,
      ⟨some 3, (.assign (.tmp 13)), 3, none⟩]))))))
    (.seq (.reg [] [⟨some 2, (.assign (.const (.int .i64 0))), 29, none⟩])
    .ret))))
theorem C84 {args : List AV} {r : AV} (hn : args.length ≤ 22) (h : vc Try.prog T [] A84 (Fin T [(.tmp 2)] r) ⟨envOf 0 args, []⟩) : CallP Try.prog 84 args r :=
  callP_of tok mixed Try.func84 (by kernel_rfl) (by kernel_rfl) (by kernel_rfl : Try.f84.ntmps = 22) (by kernel_rfl : Try.f84.body.bind (strip 22 (fun _ => [])) = some A84) hn h
theorem CO84 {args : List AV} {sz : Nat} {els : List AV} (hn : args.length ≤ 22) (h : vc Try.prog T [] A84 (FinO [(.tmp 2)] sz els) ⟨envOf 0 args, []⟩) : CallO Try.prog 84 args sz els :=
  callO_of tok mixed Try.func84 (by kernel_rfl) (by kernel_rfl) (by kernel_rfl : Try.f84.ntmps = 22) (by kernel_rfl : Try.f84.body.bind (strip 22 (fun _ => [])) = some A84) hn h
theorem CL84 {pre suf : List AV} {sz : Nat} {els els' : List AV} {r : LRet} (hn : (pre ++ .sl lid 0 0 els.length :: suf).length ≤ 22) (h : vc Try.prog T [] A84 (FinL T [(.tmp 2)] sz r els') ⟨envOf 0 (pre ++ .sl lid 0 0 els.length :: suf), [(lid, some ⟨sz, els, 0, false⟩)]⟩) : CallL Try.prog 84 pre sz els suf r els' :=
  callL_of tok mixed Try.func84 (by kernel_rfl) (by kernel_rfl) (by kernel_rfl : Try.f84.ntmps = 22) (by kernel_rfl : Try.f84.body.bind (strip 22 (fun _ => [])) = some A84) hn h

/-- vyakarana feed.Steps -/
def A80 : ACode :=
  (.seq (.reg [] [⟨some 4, (.assign (.const (.slice none 0 0))), 88, none⟩,
      ⟨some 5, (.assign (.const (.int .i64 0))), 29, none⟩])
    (.seq (.seq (.reg [] [⟨some 10, (.move (.tmp 0)), 22, none⟩,
      ⟨some 11, (.move (.tmp 1)), 23, none⟩,
      ⟨some 12, (.buildSlice 62 1 #[(0, (.tmp 11))]), 62, none⟩,
      ⟨some 13, (.call ⟨(.value (.func 140)), #[(.tmp 10), (.tmp 12)], #[22, 62]⟩), 29, none⟩,
      ⟨some 6, (.assign (.tmp 13)), 29, none⟩])
    (.seq (.reg [] [⟨some 14, (.move (.tmp 6)), 29, none⟩,
      ⟨some 15, (.binOp .neq 29 (.tmp 14) (.const (.int .i64 0)) 29), 4, none⟩])
    (.cond (.tmp 15)
    (.seq (.reg [] [⟨some 16, (.move (.tmp 6)), 29, none⟩,
      ⟨some 4, (.assign (.const (.slice none 0 0))), 88, none⟩,
      ⟨some 5, (.assign (.tmp 16)), 29, none⟩])
    .ret)
    .skip)))
    (.seq (.reg [] [⟨some 7, (.assign (.const (.slice none 0 0))), 88, none⟩])
    (.seq (.seq (.reg [] [⟨some 17, (.move (.tmp 0)), 22, none⟩,
      ⟨some 18, (.move (.tmp 1)), 23, none⟩,
      ⟨some 19, (.call ⟨(.value (.func 141)), #[(.tmp 17), (.tmp 18)], #[22, 23]⟩), 143, none⟩,
      ⟨some 20, (.call ⟨(.builtin .len), #[(.tmp 19)], #[143]⟩), 3, none⟩,
      ⟨some 21, (.move (.const (.int .i64 0))), 3, none⟩])
    (.block 0 (.loop (.seq (.reg [] [⟨some 22, (.binOp .lss 3 (.tmp 21) (.tmp 20) 3), 0, none⟩])
    (.seq (.cond (.tmp 22)
    .skip
    (.exit 0))
    (.seq (.block 1 (.seq (.reg [] [⟨some 23, (.indexAddr 143 (.tmp 19) (.tmp 21)), 0, none⟩,
      ⟨some 24, (.load 172 (.tmp 23)), 172, none⟩,
      ⟨some 9, (.alloc 172), 0, none⟩,
      ⟨none, (.store 172 (.tmp 9) (.tmp 24)), 0, none⟩])
    (.reg [] [⟨some 25, (.move (.tmp 7)), 88, none⟩,
      ⟨some 26, (.fieldAddr 172 (.tmp 9) 0), 0, none⟩,
      ⟨some 27, (.load 46 (.tmp 26)), 46, none⟩,
      ⟨some 28, (.buildSlice 88 1 #[(0, (.tmp 27))]), 88, none⟩,
      ⟨some 29, (.call ⟨(.builtin .append), #[(.tmp 25), (.tmp 28)], #[88, 88]⟩), 88, none⟩,
      ⟨some 7, (.assign (.tmp 29)), 88, none⟩])))
    (.reg [] [⟨some 30, (.binOp .add 3 (.tmp 21) (.const (.int .i64 1)) 3), 3, none⟩,
      ⟨some 21, (.move (.tmp 30)), 3, none⟩])))))))
    (.seq (.reg [] [⟨some 31, (.move (.tmp 7)), 88, none⟩,
      ⟨some 4, (.assign (.tmp 31)), 88, none⟩,
      ⟨some 5, (.assign (.const (.int .i64 0))), 29, none⟩])
    .ret)))))
theorem C80 {args : List AV} {r : AV} (hn : args.length ≤ 32) (h : vc Try.prog T [] A80 (Fin T [(.tmp 4), (.tmp 5)] r) ⟨envOf 0 args, []⟩) : CallP Try.prog 80 args r :=
  callP_of tok mixed Try.func80 (by kernel_rfl) (by kernel_rfl) (by kernel_rfl : Try.f80.ntmps = 32) (by kernel_rfl : Try.f80.body.bind (strip 32 (fun _ => [])) = some A80) hn h
theorem CO80 {args : List AV} {sz : Nat} {els : List AV} (hn : args.length ≤ 32) (h : vc Try.prog T [] A80 (FinO [(.tmp 4), (.tmp 5)] sz els) ⟨envOf 0 args, []⟩) : CallO Try.prog 80 args sz els :=
  callO_of tok mixed Try.func80 (by kernel_rfl) (by kernel_rfl) (by kernel_rfl : Try.f80.ntmps = 32) (by kernel_rfl : Try.f80.body.bind (strip 32 (fun _ => [])) = some A80) hn h
theorem CL80 {pre suf : List AV} {sz : Nat} {els els' : List AV} {r : LRet} (hn : (pre ++ .sl lid 0 0 els.length :: suf).length ≤ 32) (h : vc Try.prog T [] A80 (FinL T [(.tmp 4), (.tmp 5)] sz r els') ⟨envOf 0 (pre ++ .sl lid 0 0 els.length :: suf), [(lid, some ⟨sz, els, 0, false⟩)]⟩) : CallL Try.prog 80 pre sz els suf r els' :=
  callL_of tok mixed Try.func80 (by kernel_rfl) (by kernel_rfl) (by kernel_rfl : Try.f80.ntmps = 32) (by kernel_rfl : Try.f80.body.bind (strip 32 (fun _ => [])) = some A80) hn h

/-- vyakarana vyakaranaref03.Steps -/
def A81 : ACode :=
  (.seq (.reg [] [⟨some 4, (.assign (.const (.slice none 0 0))), 88, none⟩,
      ⟨some 5, (.assign (.const (.int .i64 0))), 29, none⟩])
    (.seq (.seq (.reg [] [⟨some 9, (.move (.tmp 0)), 22, none⟩,
      ⟨some 10, (.move (.tmp 1)), 23, none⟩,
      ⟨some 11, (.call ⟨(.value (.func 162)), #[(.tmp 9), (.tmp 10), (.const (.slice none 0 0))], #[22, 23, 23]⟩), 29, none⟩,
      ⟨some 6, (.assign (.tmp 11)), 29, none⟩])
    (.seq (.reg [] [⟨some 12, (.move (.tmp 6)), 29, none⟩,
      ⟨some 13, (.binOp .neq 29 (.tmp 12) (.const (.int .i64 0)) 29), 4, none⟩])
    (.cond (.tmp 13)
    (.seq (.reg [] [⟨some 14, (.move (.tmp 6)), 29, none⟩,
      ⟨some 4, (.assign (.const (.slice none 0 0))), 88, none⟩,
      ⟨some 5, (.assign (.tmp 14)), 29, none⟩])
    .ret)
    .skip)))
    (.seq (.reg [] [⟨some 16, (.move (.tmp 0)), 22, none⟩,
      ⟨some 17, (.move (.tmp 1)), 23, none⟩,
      ⟨some 18, (.call ⟨(.value (.func 164)), #[(.tmp 16), (.tmp 17)], #[22, 23]⟩), 173, none⟩,
      ⟨some 15, (.move (.tmp 18)), 173, none⟩,
      ⟨some 19, (.extract (.tmp 15) 0), 88, none⟩,
      ⟨some 20, (.extract (.tmp 15) 1), 62, none⟩,
      ⟨some 7, (.assign (.tmp 19)), 88, none⟩,
      ⟨some 8, (.assign (.tmp 20)), 62, none⟩])
    (.seq (.reg [] [⟨some 21, (.move (.tmp 7)), 88, none⟩,
      ⟨some 4, (.assign (.tmp 21)), 88, none⟩,
      ⟨some 5, (.assign (.const (.int .i64 0))), 29, none⟩])
    .ret))))
theorem C81 {args : List AV} {r : AV} (hn : args.length ≤ 22) (h : vc Try.prog T [] A81 (Fin T [(.tmp 4), (.tmp 5)] r) ⟨envOf 0 args, []⟩) : CallP Try.prog 81 args r :=
  callP_of tok mixed Try.func81 (by kernel_rfl) (by kernel_rfl) (by kernel_rfl : Try.f81.ntmps = 22) (by kernel_rfl : Try.f81.body.bind (strip 22 (fun _ => [])) = some A81) hn h
theorem CO81 {args : List AV} {sz : Nat} {els : List AV} (hn : args.length ≤ 22) (h : vc Try.prog T [] A81 (FinO [(.tmp 4), (.tmp 5)] sz els) ⟨envOf 0 args, []⟩) : CallO Try.prog 81 args sz els :=
  callO_of tok mixed Try.func81 (by kernel_rfl) (by kernel_rfl) (by kernel_rfl : Try.f81.ntmps = 22) (by kernel_rfl : Try.f81.body.bind (strip 22 (fun _ => [])) = some A81) hn h
theorem CL81 {pre suf : List AV} {sz : Nat} {els els' : List AV} {r : LRet} (hn : (pre ++ .sl lid 0 0 els.length :: suf).length ≤ 22) (h : vc Try.prog T [] A81 (FinL T [(.tmp 4), (.tmp 5)] sz r els') ⟨envOf 0 (pre ++ .sl lid 0 0 els.length :: suf), [(lid, some ⟨sz, els, 0, false⟩)]⟩) : CallL Try.prog 81 pre sz els suf r els' :=
  callL_of tok mixed Try.func81 (by kernel_rfl) (by kernel_rfl) (by kernel_rfl : Try.f81.ntmps = 22) (by kernel_rfl : Try.f81.body.bind (strip 22 (fun _ => [])) = some A81) hn h

/-- vyakarana feed.moves -/
def A141 : ACode :=
  (.seq (.reg [] [⟨some 4, (.assign (.const (.slice none 0 0))), 143, none⟩])
    (.seq (.reg [] [⟨some 5, (.assign (.const (.slice none 0 0))), 143, none⟩])
    (.seq (.seq (.reg [] [⟨some 14, (.move (.tmp 0)), 22, none⟩,
      ⟨some 15, (.call ⟨(.builtin .len), #[(.tmp 14)], #[22]⟩), 3, none⟩,
      ⟨some 16, (.move (.const (.int .i64 0))), 3, none⟩])
    (.block 0 (.loop (.seq (.reg [] [⟨some 17, (.binOp .lss 3 (.tmp 16) (.tmp 15) 3), 0, none⟩])
    (.seq (.cond (.tmp 17)
    .skip
    (.exit 0))
    (.seq (.block 1 (.seq (.reg [] [⟨some 18, (.move (.tmp 16)), 3, none⟩,
      ⟨some 19, (.indexAddr 22 (.tmp 14) (.tmp 16)), 0, none⟩,
      ⟨some 20, (.load 72 (.tmp 19)), 72, none⟩,
      ⟨some 7, (.alloc 72), 0, none⟩,
      ⟨some 6, (.assign (.tmp 18)), 3, none⟩,
      ⟨none, (.store 72 (.tmp 7) (.tmp 20)), 0, none⟩])
    (.seq (.reg [] [⟨some 22, (.load 72 (.tmp 7)), 72, none⟩,
      ⟨some 23, (.move (.tmp 1)), 23, none⟩,
      ⟨some 24, (.call ⟨(.value (.func 60)), #[(.tmp 22), (.tmp 23)], #[72, 23]⟩), 32, none⟩,
      ⟨some 21, (.move (.tmp 24)), 32, none⟩,
      ⟨some 25, (.extract (.tmp 21) 0), 23, none⟩,
      ⟨some 26, (.extract (.tmp 21) 1), 29, none⟩,
      ⟨some 8, (.assign (.tmp 25)), 23, none⟩,
      ⟨some 9, (.assign (.tmp 26)), 29, none⟩])
    (.seq (.reg [] [⟨some 27, (.move (.tmp 8)), 23, none⟩,
      ⟨some 28, (.call ⟨(.builtin .len), #[(.tmp 27)], #[23]⟩), 3, none⟩,
      ⟨some 29, (.move (.const (.int .i64 0))), 3, none⟩])
    (.block 2 (.loop (.seq (.reg [] [⟨some 30, (.binOp .lss 3 (.tmp 29) (.tmp 28) 3), 0, none⟩])
    (.seq (.cond (.tmp 30)
    .skip
    (.exit 2))
    (.seq (.block 3 (.seq (.reg [] [⟨some 31, (.indexAddr 23 (.tmp 27) (.tmp 29)), 0, none⟩,
      ⟨some 32, (.load 3 (.tmp 31)), 3, none⟩,
      ⟨some 11, (.assign (.tmp 32)), 3, none⟩])
    (.seq (.reg [] [⟨some 34, (.load 72 (.tmp 7)), 72, none⟩,
      ⟨some 35, (.move (.tmp 1)), 23, none⟩,
      ⟨some 36, (.move (.tmp 11)), 3, none⟩,
      ⟨some 37, (.call ⟨(.value (.func 70)), #[(.tmp 34), (.tmp 35), (.tmp 36)], #[72, 23, 3]⟩), 32, none⟩,
      ⟨some 33, (.move (.tmp 37)), 32, none⟩,
      ⟨some 38, (.extract (.tmp 33) 0), 23, none⟩,
      ⟨some 39, (.extract (.tmp 33) 1), 29, none⟩,
      ⟨some 12, (.assign (.tmp 38)), 23, none⟩,
      ⟨some 13, (.assign (.tmp 39)), 29, none⟩])
    (.seq (.reg [] [⟨some 40, (.move (.tmp 13)), 29, none⟩,
      ⟨some 41, (.binOp .eql 29 (.tmp 40) (.const (.int .i64 0)) 29), 4, none⟩])
    (.cond (.tmp 41)
    (.reg [] [⟨some 42, (.move (.tmp 5)), 143, none⟩,
      ⟨some 43, (.move (.tmp 6)), 3, none⟩,
      ⟨some 44, (.move (.tmp 11)), 3, none⟩,
      ⟨some 45, (.build 46 #[(0, (.tmp 43)), (1, (.tmp 44))]), 46, none⟩,
      ⟨some 46, (.move (.tmp 12)), 23, none⟩,
      ⟨some 47, (.build 172 #[(0, (.tmp 45)), (1, (.tmp 46))]), 172, none⟩,
      ⟨some 48, (.buildSlice 143 1 #[(0, (.tmp 47))]), 143, none⟩,
      ⟨some 49, (.call ⟨(.builtin .append), #[(.tmp 42), (.tmp 48)], #[143, 143]⟩), 143, none⟩,
      ⟨some 5, (.assign (.tmp 49)), 143, none⟩])
    .skip)))))
    (.reg [] [⟨some 50, (.binOp .add 3 (.tmp 29) (.const (.int .i64 1)) 3), 3, none⟩,
      ⟨some 29, (.move (.tmp 50)), 3, none⟩]))))))))))
    (.reg [] [⟨some 51, (.binOp .add 3 (.tmp 16) (.const (.int .i64 1)) 3), 3, none⟩,
      ⟨some 16, (.move (.tmp 51)), 3, none⟩])))))))
    (.seq (.reg [] [⟨some 52, (.move (.tmp 5)), 143, none⟩,
      ⟨some 4, (.assign (.tmp 52)), 143, none⟩])
    .ret))))
theorem C141 {args : List AV} {r : AV} (hn : args.length ≤ 53) (h : vc Try.prog T [] A141 (Fin T [(.tmp 4)] r) ⟨envOf 0 args, []⟩) : CallP Try.prog 141 args r :=
  callP_of tok mixed Try.func141 (by kernel_rfl) (by kernel_rfl) (by kernel_rfl : Try.f141.ntmps = 53) (by kernel_rfl : Try.f141.body.bind (strip 53 (fun _ => [])) = some A141) hn h
theorem CO141 {args : List AV} {sz : Nat} {els : List AV} (hn : args.length ≤ 53) (h : vc Try.prog T [] A141 (FinO [(.tmp 4)] sz els) ⟨envOf 0 args, []⟩) : CallO Try.prog 141 args sz els :=
  callO_of tok mixed Try.func141 (by kernel_rfl) (by kernel_rfl) (by kernel_rfl : Try.f141.ntmps = 53) (by kernel_rfl : Try.f141.body.bind (strip 53 (fun _ => [])) = some A141) hn h
theorem CL141 {pre suf : List AV} {sz : Nat} {els els' : List AV} {r : LRet} (hn : (pre ++ .sl lid 0 0 els.length :: suf).length ≤ 53) (h : vc Try.prog T [] A141 (FinL T [(.tmp 4)] sz r els') ⟨envOf 0 (pre ++ .sl lid 0 0 els.length :: suf), [(lid, some ⟨sz, els, 0, false⟩)]⟩) : CallL Try.prog 141 pre sz els suf r els' :=
  callL_of tok mixed Try.func141 (by kernel_rfl) (by kernel_rfl) (by kernel_rfl : Try.f141.ntmps = 53) (by kernel_rfl : Try.f141.body.bind (strip 53 (fun _ => [])) = some A141) hn h

/-- vyakarana feed.check -/
def A140 : ACode :=
  (.seq (.reg [] [⟨some 4, (.assign (.const (.int .i64 0))), 29, none⟩])
    (.seq (.seq (.reg [] [⟨some 9, (.move (.tmp 0)), 22, none⟩,
      ⟨some 10, (.call ⟨(.value (.func 83)), #[(.tmp 9)], #[22]⟩), 29, none⟩,
      ⟨some 5, (.assign (.tmp 10)), 29, none⟩])
    (.seq (.reg [] [⟨some 11, (.move (.tmp 5)), 29, none⟩,
      ⟨some 12, (.binOp .neq 29 (.tmp 11) (.const (.int .i64 0)) 29), 4, none⟩])
    (.cond (.tmp 12)
    (.seq (.reg [] [⟨some 13, (.move (.tmp 5)), 29, none⟩,
      ⟨some 4, (.assign (.tmp 13)), 29, none⟩])
    .ret)
    .skip)))
    (.seq (.seq (.reg [] [⟨some 14, (.move (.tmp 1)), 62, none⟩,
      ⟨some 15, (.call ⟨(.builtin .len), #[(.tmp 14)], #[62]⟩), 3, none⟩,
      ⟨some 16, (.move (.const (.int .i64 0))), 3, none⟩])
    (.block 0 (.loop (.seq (.reg [] [⟨some 17, (.binOp .lss 3 (.tmp 16) (.tmp 15) 3), 0, none⟩])
    (.seq (.cond (.tmp 17)
    .skip
    (.exit 0))
    (.seq (.block 1 (.seq (.reg [] [⟨some 18, (.indexAddr 62 (.tmp 14) (.tmp 16)), 0, none⟩,
      ⟨some 19, (.load 23 (.tmp 18)), 23, none⟩,
      ⟨some 7, (.assign (.tmp 19)), 23, none⟩])
    (.seq (.reg [] [⟨some 20, (.move (.tmp 7)), 23, none⟩,
      ⟨some 21, (.call ⟨(.value (.func 135)), #[(.tmp 20)], #[23]⟩), 29, none⟩,
      ⟨some 8, (.assign (.tmp 21)), 29, none⟩])
    (.seq (.reg [] [⟨some 22, (.move (.tmp 8)), 29, none⟩,
      ⟨some 23, (.binOp .neq 29 (.tmp 22) (.const (.int .i64 0)) 29), 4, none⟩])
    (.cond (.tmp 23)
    (.seq (.reg [] [⟨some 24, (.move (.tmp 8)), 29, none⟩,
      ⟨some 4, (.assign (.tmp 24)), 29, none⟩])
    .ret)
    .skip)))))
    (.reg [] [⟨some 25, (.binOp .add 3 (.tmp 16) (.const (.int .i64 1)) 3), 3, none⟩,
      ⟨some 16, (.move (.tmp 25)), 3, none⟩])))))))
    (.seq (.reg [] [⟨some 4, (.assign (.const (.int .i64 0))), 29, none⟩])
    .ret))))
theorem C140 {args : List AV} {r : AV} (hn : args.length ≤ 26) (h : vc Try.prog T [] A140 (Fin T [(.tmp 4)] r) ⟨envOf 0 args, []⟩) : CallP Try.prog 140 args r :=
  callP_of tok mixed Try.func140 (by kernel_rfl) (by kernel_rfl) (by kernel_rfl : Try.f140.ntmps = 26) (by kernel_rfl : Try.f140.body.bind (strip 26 (fun _ => [])) = some A140) hn h
theorem CO140 {args : List AV} {sz : Nat} {els : List AV} (hn : args.length ≤ 26) (h : vc Try.prog T [] A140 (FinO [(.tmp 4)] sz els) ⟨envOf 0 args, []⟩) : CallO Try.prog 140 args sz els :=
  callO_of tok mixed Try.func140 (by kernel_rfl) (by kernel_rfl) (by kernel_rfl : Try.f140.ntmps = 26) (by kernel_rfl : Try.f140.body.bind (strip 26 (fun _ => [])) = some A140) hn h
theorem CL140 {pre suf : List AV} {sz : Nat} {els els' : List AV} {r : LRet} (hn : (pre ++ .sl lid 0 0 els.length :: suf).length ≤ 26) (h : vc Try.prog T [] A140 (FinL T [(.tmp 4)] sz r els') ⟨envOf 0 (pre ++ .sl lid 0 0 els.length :: suf), [(lid, some ⟨sz, els, 0, false⟩)]⟩) : CallL Try.prog 140 pre sz els suf r els' :=
  callL_of tok mixed Try.func140 (by kernel_rfl) (by kernel_rfl) (by kernel_rfl : Try.f140.ntmps = 26) (by kernel_rfl : Try.f140.body.bind (strip 26 (fun _ => [])) = some A140) hn h

/-- vyakarana order.check -/
def A107 : ACode :=
  (.seq (.reg [] [⟨some 6, (.assign (.const (.int .i64 0))), 29, none⟩])
    (.seq (.seq (.reg [] [⟨some 12, (.move (.tmp 0)), 22, none⟩,
      ⟨some 13, (.call ⟨(.value (.func 83)), #[(.tmp 12)], #[22]⟩), 29, none⟩,
      ⟨some 7, (.assign (.tmp 13)), 29, none⟩])
    (.seq (.reg [] [⟨some 14, (.move (.tmp 7)), 29, none⟩,
      ⟨some 15, (.binOp .neq 29 (.tmp 14) (.const (.int .i64 0)) 29), 4, none⟩])
    (.cond (.tmp 15)
    (.seq (.reg [] [⟨some 16, (.move (.tmp 7)), 29, none⟩,
      ⟨some 6, (.assign (.tmp 16)), 29, none⟩])
    .ret)
    .skip)))
    (.seq (.seq (.reg [] [⟨some 17, (.move (.tmp 1)), 23, none⟩,
      ⟨some 18, (.call ⟨(.value (.func 135)), #[(.tmp 17)], #[23]⟩), 29, none⟩,
      ⟨some 8, (.assign (.tmp 18)), 29, none⟩])
    (.seq (.reg [] [⟨some 19, (.move (.tmp 8)), 29, none⟩,
      ⟨some 20, (.binOp .neq 29 (.tmp 19) (.const (.int .i64 0)) 29), 4, none⟩])
    (.cond (.tmp 20)
    (.seq (.reg [] [⟨some 21, (.move (.tmp 8)), 29, none⟩,
      ⟨some 6, (.assign (.tmp 21)), 29, none⟩])
    .ret)
    .skip)))
    (.seq (.seq (.reg [] [⟨some 22, (.move (.tmp 2)), 62, none⟩,
      ⟨some 23, (.call ⟨(.builtin .len), #[(.tmp 22)], #[62]⟩), 3, none⟩,
      ⟨some 24, (.move (.const (.int .i64 0))), 3, none⟩])
    (.block 0 (.loop (.seq (.reg [] [⟨some 25, (.binOp .lss 3 (.tmp 24) (.tmp 23) 3), 0, none⟩])
    (.seq (.cond (.tmp 25)
    .skip
    (.exit 0))
    (.seq (.block 1 (.seq (.reg [] [⟨some 26, (.indexAddr 62 (.tmp 22) (.tmp 24)), 0, none⟩,
      ⟨some 27, (.load 23 (.tmp 26)), 23, none⟩,
      ⟨some 10, (.assign (.tmp 27)), 23, none⟩])
    (.seq (.reg [] [⟨some 28, (.move (.tmp 10)), 23, none⟩,
      ⟨some 29, (.call ⟨(.value (.func 52)), #[(.tmp 28)], #[23]⟩), 29, none⟩,
      ⟨some 11, (.assign (.tmp 29)), 29, none⟩])
    (.seq (.reg [] [⟨some 30, (.move (.tmp 11)), 29, none⟩,
      ⟨some 31, (.binOp .neq 29 (.tmp 30) (.const (.int .i64 0)) 29), 4, none⟩])
    (.cond (.tmp 31)
    (.seq (.reg [] [⟨some 32, (.move (.tmp 11)), 29, none⟩,
      ⟨some 6, (.assign (.tmp 32)), 29, none⟩])
    .ret)
    .skip)))))
    (.reg [] [⟨some 33, (.binOp .add 3 (.tmp 24) (.const (.int .i64 1)) 3), 3, none⟩,
      ⟨some 24, (.move (.tmp 33)), 3, none⟩])))))))
    (.seq (.reg [] [⟨some 6, (.assign (.const (.int .i64 0))), 29, none⟩])
    .ret)))))
theorem C107 {args : List AV} {r : AV} (hn : args.length ≤ 34) (h : vc Try.prog T [] A107 (Fin T [(.tmp 6)] r) ⟨envOf 0 args, []⟩) : CallP Try.prog 107 args r :=
  callP_of tok mixed Try.func107 (by kernel_rfl) (by kernel_rfl) (by kernel_rfl : Try.f107.ntmps = 34) (by kernel_rfl : Try.f107.body.bind (strip 34 (fun _ => [])) = some A107) hn h
theorem CO107 {args : List AV} {sz : Nat} {els : List AV} (hn : args.length ≤ 34) (h : vc Try.prog T [] A107 (FinO [(.tmp 6)] sz els) ⟨envOf 0 args, []⟩) : CallO Try.prog 107 args sz els :=
  callO_of tok mixed Try.func107 (by kernel_rfl) (by kernel_rfl) (by kernel_rfl : Try.f107.ntmps = 34) (by kernel_rfl : Try.f107.body.bind (strip 34 (fun _ => [])) = some A107) hn h
theorem CL107 {pre suf : List AV} {sz : Nat} {els els' : List AV} {r : LRet} (hn : (pre ++ .sl lid 0 0 els.length :: suf).length ≤ 34) (h : vc Try.prog T [] A107 (FinL T [(.tmp 6)] sz r els') ⟨envOf 0 (pre ++ .sl lid 0 0 els.length :: suf), [(lid, some ⟨sz, els, 0, false⟩)]⟩) : CallL Try.prog 107 pre sz els suf r els' :=
  callL_of tok mixed Try.func107 (by kernel_rfl) (by kernel_rfl) (by kernel_rfl : Try.f107.ntmps = 34) (by kernel_rfl : Try.f107.body.bind (strip 34 (fun _ => [])) = some A107) hn h

/-- vyakarana order.derive -/
def A108 : ACode :=
  (.seq (.reg [] [⟨some 6, (.assign (.const (.slice none 0 0))), 28, none⟩,
      ⟨some 7, (.assign (.const (.slice none 0 0))), 23, none⟩,
      ⟨some 8, (.assign (.const (.int .i64 0))), 29, none⟩])
    (.seq (.reg [] [⟨some 12, (.move (.tmp 1)), 23, none⟩,
      ⟨some 13, (.call ⟨(.value (.func 152)), #[(.tmp 12)], #[23]⟩), 23, none⟩,
      ⟨some 1, (.assign (.tmp 13)), 23, none⟩])
    (.seq (.reg [] [⟨some 9, (.assign (.const (.slice none 0 0))), 28, none⟩])
    (.block 0 (.loop (.block 1 (.seq (.reg [] [⟨some 15, (.move (.tmp 0)), 22, none⟩,
      ⟨some 16, (.move (.tmp 1)), 23, none⟩,
      ⟨some 17, (.move (.tmp 2)), 23, none⟩,
      ⟨some 18, (.call ⟨(.value (.func 111)), #[(.tmp 15), (.tmp 16), (.tmp 17)], #[22, 23, 23]⟩), 115, none⟩,
      ⟨some 14, (.move (.tmp 18)), 115, none⟩,
      ⟨some 19, (.extract (.tmp 14) 0), 37, none⟩,
      ⟨some 20, (.extract (.tmp 14) 1), 4, none⟩,
      ⟨some 10, (.alloc 37), 0, none⟩,
      ⟨none, (.store 37 (.tmp 10) (.tmp 19)), 0, none⟩,
      ⟨some 11, (.assign (.tmp 20)), 4, none⟩])
    (.seq (.seq (.reg [] [⟨some 21, (.move (.tmp 11)), 4, none⟩,
      ⟨some 22, (.unOp .not 4 (.tmp 21)), 4, none⟩])
    (.cond (.tmp 22)
    (.seq (.reg [] [⟨some 23, (.move (.tmp 9)), 28, none⟩,
      ⟨some 24, (.move (.tmp 1)), 23, none⟩,
      ⟨some 6, (.assign (.tmp 23)), 28, none⟩,
      ⟨some 7, (.assign (.tmp 24)), 23, none⟩,
      ⟨some 8, (.assign (.const (.int .i64 0))), 29, none⟩])
    .ret)
    .skip))
    (.seq (.seq (.reg [] [⟨some 25, (.move (.tmp 9)), 28, none⟩,
      ⟨some 26, (.call ⟨(.builtin .len), #[(.tmp 25)], #[28]⟩), 3, none⟩,
      ⟨some 27, (.binOp .eql 3 (.tmp 26) (.const (.int .i64 60)) 3), 4, none⟩])
    (.cond (.tmp 27)
    (.seq (.reg [] [⟨some 6, (.assign (.const (.slice none 0 0))), 28, none⟩,
      ⟨some 7, (.assign (.const (.slice none 0 0))), 23, none⟩,
      ⟨some 8, (.assign (.const (.int .i64 3))), 29, none⟩])
    .ret)
    .skip))
    (.seq (.reg [] [⟨some 28, (.move (.tmp 9)), 28, none⟩,
      ⟨some 29, (.load 37 (.tmp 10)), 37, none⟩,
      ⟨some 30, (.buildSlice 28 1 #[(0, (.tmp 29))]), 28, none⟩,
      ⟨some 31, (.call ⟨(.builtin .append), #[(.tmp 28), (.tmp 30)], #[28, 28]⟩), 28, none⟩,
      ⟨some 9, (.assign (.tmp 31)), 28, none⟩])
    (.reg [] [⟨some 32, (.move (.tmp 0)), 22, none⟩,
      ⟨some 33, (.move (.tmp 1)), 23, none⟩,
      ⟨some 34, (.load 37 (.tmp 10)), 37, none⟩,
      ⟨some 35, (.call ⟨(.value (.func 117)), #[(.tmp 32), (.tmp 33), (.tmp 34)], #[22, 23, 37]⟩), 23, none⟩,
      ⟨some 1, (.assign (.tmp 35)), 23, none⟩])))))))))))
theorem C108 {args : List AV} {r : AV} (hn : args.length ≤ 36) (h : vc Try.prog T [] A108 (Fin T [(.tmp 6), (.tmp 7), (.tmp 8)] r) ⟨envOf 0 args, []⟩) : CallP Try.prog 108 args r :=
  callP_of tok mixed Try.func108 (by kernel_rfl) (by kernel_rfl) (by kernel_rfl : Try.f108.ntmps = 36) (by kernel_rfl : Try.f108.body.bind (strip 36 (fun _ => [])) = some A108) hn h
theorem CO108 {args : List AV} {sz : Nat} {els : List AV} (hn : args.length ≤ 36) (h : vc Try.prog T [] A108 (FinO [(.tmp 6), (.tmp 7), (.tmp 8)] sz els) ⟨envOf 0 args, []⟩) : CallO Try.prog 108 args sz els :=
  callO_of tok mixed Try.func108 (by kernel_rfl) (by kernel_rfl) (by kernel_rfl : Try.f108.ntmps = 36) (by kernel_rfl : Try.f108.body.bind (strip 36 (fun _ => [])) = some A108) hn h
theorem CL108 {pre suf : List AV} {sz : Nat} {els els' : List AV} {r : LRet} (hn : (pre ++ .sl lid 0 0 els.length :: suf).length ≤ 36) (h : vc Try.prog T [] A108 (FinL T [(.tmp 6), (.tmp 7), (.tmp 8)] sz r els') ⟨envOf 0 (pre ++ .sl lid 0 0 els.length :: suf), [(lid, some ⟨sz, els, 0, false⟩)]⟩) : CallL Try.prog 108 pre sz els suf r els' :=
  callL_of tok mixed Try.func108 (by kernel_rfl) (by kernel_rfl) (by kernel_rfl : Try.f108.ntmps = 36) (by kernel_rfl : Try.f108.body.bind (strip 36 (fun _ => [])) = some A108) hn h

/-- vyakarana vyakaranaref04.all -/
def A109 : ACode :=
  (.seq (.reg [] [⟨some 6, (.assign (.const (.int .i64 0))), 29, none⟩])
    (.seq (.reg [] [⟨some 8, (.move (.tmp 0)), 22, none⟩,
      ⟨some 9, (.move (.tmp 1)), 23, none⟩,
      ⟨some 10, (.call ⟨(.value (.func 120)), #[(.tmp 8), (.tmp 9)], #[22, 23]⟩), 29, none⟩,
      ⟨some 7, (.assign (.tmp 10)), 29, none⟩])
    (.seq (.seq (.reg [] [⟨some 11, (.move (.tmp 7)), 29, none⟩,
      ⟨some 12, (.binOp .neq 29 (.tmp 11) (.const (.int .i64 0)) 29), 4, none⟩])
    (.cond (.tmp 12)
    (.seq (.reg [] [⟨some 13, (.move (.tmp 7)), 29, none⟩,
      ⟨some 6, (.assign (.tmp 13)), 29, none⟩])
    .ret)
    .skip))
    (.seq (.reg [] [⟨some 14, (.move (.tmp 2)), 23, none⟩,
      ⟨some 15, (.call ⟨(.value (.func 53)), #[(.tmp 14)], #[23]⟩), 29, none⟩,
      ⟨some 6, (.assign (.tmp 15)), 29, none⟩])
    .ret))))
theorem C109 {args : List AV} {r : AV} (hn : args.length ≤ 16) (h : vc Try.prog T [] A109 (Fin T [(.tmp 6)] r) ⟨envOf 0 args, []⟩) : CallP Try.prog 109 args r :=
  callP_of tok mixed Try.func109 (by kernel_rfl) (by kernel_rfl) (by kernel_rfl : Try.f109.ntmps = 16) (by kernel_rfl : Try.f109.body.bind (strip 16 (fun _ => [])) = some A109) hn h
theorem CO109 {args : List AV} {sz : Nat} {els : List AV} (hn : args.length ≤ 16) (h : vc Try.prog T [] A109 (FinO [(.tmp 6)] sz els) ⟨envOf 0 args, []⟩) : CallO Try.prog 109 args sz els :=
  callO_of tok mixed Try.func109 (by kernel_rfl) (by kernel_rfl) (by kernel_rfl : Try.f109.ntmps = 16) (by kernel_rfl : Try.f109.body.bind (strip 16 (fun _ => [])) = some A109) hn h
theorem CL109 {pre suf : List AV} {sz : Nat} {els els' : List AV} {r : LRet} (hn : (pre ++ .sl lid 0 0 els.length :: suf).length ≤ 16) (h : vc Try.prog T [] A109 (FinL T [(.tmp 6)] sz r els') ⟨envOf 0 (pre ++ .sl lid 0 0 els.length :: suf), [(lid, some ⟨sz, els, 0, false⟩)]⟩) : CallL Try.prog 109 pre sz els suf r els' :=
  callL_of tok mixed Try.func109 (by kernel_rfl) (by kernel_rfl) (by kernel_rfl : Try.f109.ntmps = 16) (by kernel_rfl : Try.f109.body.bind (strip 16 (fun _ => [])) = some A109) hn h

/-- vyakarana vyakaranaref04.derive -/
def A110 : ACode :=
  (.seq (.reg [] [⟨some 6, (.assign (.const (.slice none 0 0))), 28, none⟩,
      ⟨some 7, (.assign (.const (.slice none 0 0))), 23, none⟩,
      ⟨some 8, (.assign (.const (.bool false))), 4, none⟩])
    (.seq (.reg [] [⟨some 9, (.assign (.const (.slice none 0 0))), 28, none⟩])
    (.block 0 (.loop (.block 1 (.seq (.reg [] [⟨some 13, (.move (.tmp 0)), 22, none⟩,
      ⟨some 14, (.move (.tmp 1)), 23, none⟩,
      ⟨some 15, (.move (.tmp 2)), 23, none⟩,
      ⟨some 16, (.call ⟨(.value (.func 112)), #[(.tmp 13), (.tmp 14), (.tmp 15)], #[22, 23, 23]⟩), 115, none⟩,
      ⟨some 12, (.move (.tmp 16)), 115, none⟩,
      ⟨some 17, (.extract (.tmp 12) 0), 37, none⟩,
      ⟨some 18, (.extract (.tmp 12) 1), 4, none⟩,
      ⟨some 10, (.alloc 37), 0, none⟩,
      ⟨none, (.store 37 (.tmp 10) (.tmp 17)), 0, none⟩,
      ⟨some 11, (.assign (.tmp 18)), 4, none⟩])
    (.seq (.seq (.reg [] [⟨some 19, (.move (.tmp 11)), 4, none⟩,
      ⟨some 20, (.unOp .not 4 (.tmp 19)), 4, none⟩])
    (.cond (.tmp 20)
    (.seq (.reg [] [⟨some 21, (.move (.tmp 9)), 28, none⟩,
      ⟨some 22, (.move (.tmp 1)), 23, none⟩,
      ⟨some 6, (.assign (.tmp 21)), 28, none⟩,
      ⟨some 7, (.assign (.tmp 22)), 23, none⟩,
      ⟨some 8, (.assign (.const (.bool true))), 4, none⟩])
    .ret)
    .skip))
    (.seq (.seq (.reg [] [⟨some 23, (.move (.tmp 9)), 28, none⟩,
      ⟨some 24, (.call ⟨(.builtin .len), #[(.tmp 23)], #[28]⟩), 3, none⟩,
      ⟨some 25, (.binOp .eql 3 (.tmp 24) (.const (.int .i64 60)) 3), 4, none⟩])
    (.cond (.tmp 25)
    (.seq (.reg [] [⟨some 26, (.move (.tmp 9)), 28, none⟩,
      ⟨some 27, (.move (.tmp 1)), 23, none⟩,
      ⟨some 6, (.assign (.tmp 26)), 28, none⟩,
      ⟨some 7, (.assign (.tmp 27)), 23, none⟩,
      ⟨some 8, (.assign (.const (.bool false))), 4, none⟩])
    .ret)
    .skip))
    (.seq (.reg [] [⟨some 28, (.move (.tmp 9)), 28, none⟩,
      ⟨some 29, (.load 37 (.tmp 10)), 37, none⟩,
      ⟨some 30, (.buildSlice 28 1 #[(0, (.tmp 29))]), 28, none⟩,
      ⟨some 31, (.call ⟨(.builtin .append), #[(.tmp 28), (.tmp 30)], #[28, 28]⟩), 28, none⟩,
      ⟨some 9, (.assign (.tmp 31)), 28, none⟩])
    (.reg [] [⟨some 32, (.move (.tmp 0)), 22, none⟩,
      ⟨some 33, (.move (.tmp 1)), 23, none⟩,
      ⟨some 34, (.fieldAddr 37 (.tmp 10) 0), 0, none⟩,
      ⟨some 35, (.load 3 (.tmp 34)), 3, none⟩,
      ⟨some 36, (.fieldAddr 37 (.tmp 10) 1), 0, none⟩,
      ⟨some 37, (.load 3 (.tmp 36)), 3, none⟩,
      ⟨some 38, (.build 46 #[(0, (.tmp 35)), (1, (.tmp 37))]), 46, none⟩,
      ⟨some 39, (.call ⟨(.value (.func 183)), #[(.tmp 32), (.tmp 33), (.tmp 38)], #[22, 23, 46]⟩), 23, none⟩,
      ⟨some 1, (.assign (.tmp 39)), 23, none⟩]))))))))))
theorem C110 {args : List AV} {r : AV} (hn : args.length ≤ 40) (h : vc Try.prog T [] A110 (Fin T [(.tmp 6), (.tmp 7), (.tmp 8)] r) ⟨envOf 0 args, []⟩) : CallP Try.prog 110 args r :=
  callP_of tok mixed Try.func110 (by kernel_rfl) (by kernel_rfl) (by kernel_rfl : Try.f110.ntmps = 40) (by kernel_rfl : Try.f110.body.bind (strip 40 (fun _ => [])) = some A110) hn h
theorem CO110 {args : List AV} {sz : Nat} {els : List AV} (hn : args.length ≤ 40) (h : vc Try.prog T [] A110 (FinO [(.tmp 6), (.tmp 7), (.tmp 8)] sz els) ⟨envOf 0 args, []⟩) : CallO Try.prog 110 args sz els :=
  callO_of tok mixed Try.func110 (by kernel_rfl) (by kernel_rfl) (by kernel_rfl : Try.f110.ntmps = 40) (by kernel_rfl : Try.f110.body.bind (strip 40 (fun _ => [])) = some A110) hn h
theorem CL110 {pre suf : List AV} {sz : Nat} {els els' : List AV} {r : LRet} (hn : (pre ++ .sl lid 0 0 els.length :: suf).length ≤ 40) (h : vc Try.prog T [] A110 (FinL T [(.tmp 6), (.tmp 7), (.tmp 8)] sz r els') ⟨envOf 0 (pre ++ .sl lid 0 0 els.length :: suf), [(lid, some ⟨sz, els, 0, false⟩)]⟩) : CallL Try.prog 110 pre sz els suf r els' :=
  callL_of tok mixed Try.func110 (by kernel_rfl) (by kernel_rfl) (by kernel_rfl : Try.f110.ntmps = 40) (by kernel_rfl : Try.f110.body.bind (strip 40 (fun _ => [])) = some A110) hn h

/-- vyakarana order.choice -/
def A111 : ACode :=
  (.seq (.reg [] [⟨some 6, (.alloc 37), 0, none⟩,
      ⟨some 7, (.assign (.const (.bool false))), 4, none⟩])
    (.seq (.reg [] [⟨some 13, (.move (.tmp 0)), 22, none⟩,
      ⟨some 14, (.move (.tmp 1)), 23, none⟩,
      ⟨some 15, (.call ⟨(.value (.func 113)), #[(.tmp 13), (.tmp 14)], #[22, 23]⟩), 117, none⟩,
      ⟨some 8, (.assign (.tmp 15)), 117, none⟩])
    (.seq (.seq (.reg [] [⟨some 16, (.move (.tmp 8)), 117, none⟩,
      ⟨some 17, (.call ⟨(.builtin .len), #[(.tmp 16)], #[117]⟩), 3, none⟩,
      ⟨some 18, (.binOp .eql 3 (.tmp 17) (.const (.int .i64 0)) 3), 4, none⟩])
    (.cond (.tmp 18)
    (.seq (.reg [] [⟨some 19, (.build 37 #[]), 37, none⟩,
      ⟨none, (.store 37 (.tmp 6) (.tmp 19)), 0, none⟩,
      ⟨some 7, (.assign (.const (.bool false))), 4, none⟩])
    .ret)
    .skip))
    (.seq (.reg [] [⟨some 21, (.move (.tmp 1)), 23, none⟩,
      ⟨some 22, (.move (.tmp 2)), 23, none⟩,
      ⟨some 23, (.move (.tmp 8)), 117, none⟩,
      ⟨some 24, (.call ⟨(.value (.func 114)), #[(.tmp 21), (.tmp 22), (.tmp 23)], #[23, 23, 117]⟩), 121, none⟩,
      ⟨some 20, (.move (.tmp 24)), 121, none⟩,
      ⟨some 25, (.extract (.tmp 20) 0), 120, none⟩,
      ⟨some 26, (.extract (.tmp 20) 1), 4, none⟩,
      ⟨some 9, (.alloc 120), 0, none⟩,
      ⟨none, (.store 120 (.tmp 9) (.tmp 25)), 0, none⟩,
      ⟨some 10, (.assign (.tmp 26)), 4, none⟩])
    (.seq (.reg [] [⟨some 11, (.assign (.const (.int .i64 0))), 3, none⟩])
    (.seq (.seq (.reg [] [⟨some 27, (.move (.tmp 10)), 4, none⟩,
      ⟨some 28, (.unOp .not 4 (.tmp 27)), 4, none⟩])
    (.cond (.tmp 28)
    (.reg [] [⟨some 29, (.move (.tmp 8)), 117, none⟩,
      ⟨some 30, (.move (.tmp 8)), 117, none⟩,
      ⟨some 31, (.call ⟨(.builtin .len), #[(.tmp 30)], #[117]⟩), 3, none⟩,
      ⟨some 32, (.binOp .sub 3 (.tmp 31) (.const (.int .i64 1)) 3), 3, none⟩,
      ⟨some 33, (.indexAddr 117 (.tmp 29) (.tmp 32)), 0, none⟩,
      ⟨some 34, (.load 120 (.tmp 33)), 120, none⟩,
      ⟨none, (.store 120 (.tmp 9) (.tmp 34)), 0, none⟩])
    (.seq (.reg [] [⟨some 35, (.move (.tmp 8)), 117, none⟩,
      ⟨some 36, (.makeFunc (.func 185) #[] #[(.tmp 9)]), 191, none⟩,
      ⟨some 37, (.call ⟨(.value (.func 184)), #[(.tmp 35), (.tmp 36)], #[117, 191]⟩), 3, none⟩,
      ⟨some 12, (.assign (.tmp 37)), 3, none⟩])
    (.seq (.reg [] [⟨some 38, (.move (.tmp 12)), 3, none⟩,
      ⟨some 39, (.binOp .geq 3 (.tmp 38) (.const (.int .i64 0)) 3), 4, none⟩])
    (.cond (.tmp 39)
    (.draw [] [⟨some 40, (.move (.tmp 1)), 23, none⟩,
      ⟨some 41, (.move (.tmp 2)), 23, none⟩,
      ⟨some 42, (.load 120 (.tmp 9)), 120, none⟩,
      ⟨some 43, (.move (.tmp 8)), 117, none⟩,
      ⟨some 44, (.move (.tmp 12)), 3, none⟩,
      ⟨some 45, (.indexAddr 117 (.tmp 43) (.tmp 44)), 0, none⟩,
      ⟨some 46, (.load 120 (.tmp 45)), 120, none⟩,
      ⟨some 47, (.call ⟨(.value (.func 123)), #[(.tmp 40), (.tmp 41), (.tmp 42), (.tmp 46)], #[23, 23, 120, 120]⟩), 3, none⟩,
      ⟨some 11, (.assign (.tmp 47)), 3, none⟩] [(0, 1), (0, 2), (1, 2), (0, 3), (1, 3), (2, 3), (0, 4), (1, 4), (2, 4), (3, 4), (0, 5), (1, 5), (2, 5), (0, 6), (1, 6), (2, 6)])
    .skip)))))
    (.seq (.reg [] [⟨some 48, (.fieldAddr 120 (.tmp 9) 0), 0, none⟩,
      ⟨some 49, (.fieldAddr 46 (.tmp 48) 0), 0, none⟩,
      ⟨some 50, (.load 3 (.tmp 49)), 3, none⟩,
      ⟨some 51, (.fieldAddr 120 (.tmp 9) 0), 0, none⟩,
      ⟨some 52, (.fieldAddr 46 (.tmp 51) 1), 0, none⟩,
      ⟨some 53, (.load 3 (.tmp 52)), 3, none⟩,
      ⟨some 54, (.move (.tmp 11)), 3, none⟩,
      ⟨some 55, (.build 37 #[(0, (.tmp 50)), (1, (.tmp 53)), (2, (.tmp 54))]), 37, none⟩,
      ⟨none, (.store 37 (.tmp 6) (.tmp 55)), 0, none⟩,
      ⟨some 7, (.assign (.const (.bool true))), 4, none⟩])
    .ret)))))))
theorem C111 {args : List AV} {r : AV} (hn : args.length ≤ 56) (h : vc Try.prog T [] A111 (Fin T [(.cell 6 37), (.tmp 7)] r) ⟨envOf 0 args, []⟩) : CallP Try.prog 111 args r :=
  callP_of tok mixed Try.func111 (by kernel_rfl) (by kernel_rfl) (by kernel_rfl : Try.f111.ntmps = 56) (by kernel_rfl : Try.f111.body.bind (strip 56 (fun _ => [])) = some A111) hn h
theorem CO111 {args : List AV} {sz : Nat} {els : List AV} (hn : args.length ≤ 56) (h : vc Try.prog T [] A111 (FinO [(.cell 6 37), (.tmp 7)] sz els) ⟨envOf 0 args, []⟩) : CallO Try.prog 111 args sz els :=
  callO_of tok mixed Try.func111 (by kernel_rfl) (by kernel_rfl) (by kernel_rfl : Try.f111.ntmps = 56) (by kernel_rfl : Try.f111.body.bind (strip 56 (fun _ => [])) = some A111) hn h
theorem CL111 {pre suf : List AV} {sz : Nat} {els els' : List AV} {r : LRet} (hn : (pre ++ .sl lid 0 0 els.length :: suf).length ≤ 56) (h : vc Try.prog T [] A111 (FinL T [(.cell 6 37), (.tmp 7)] sz r els') ⟨envOf 0 (pre ++ .sl lid 0 0 els.length :: suf), [(lid, some ⟨sz, els, 0, false⟩)]⟩) : CallL Try.prog 111 pre sz els suf r els' :=
  callL_of tok mixed Try.func111 (by kernel_rfl) (by kernel_rfl) (by kernel_rfl : Try.f111.ntmps = 56) (by kernel_rfl : Try.f111.body.bind (strip 56 (fun _ => [])) = some A111) hn h

/-- vyakarana vyakaranaref04.winner -/
def A112 : ACode :=
  (.seq (.reg [] [⟨some 6, (.alloc 37), 0, none⟩,
      ⟨some 7, (.assign (.const (.bool false))), 4, none⟩])
    (.seq (.reg [] [⟨some 13, (.move (.tmp 0)), 22, none⟩,
      ⟨some 14, (.move (.tmp 1)), 23, none⟩,
      ⟨some 15, (.call ⟨(.value (.func 115)), #[(.tmp 13), (.tmp 14)], #[22, 23]⟩), 88, none⟩,
      ⟨some 8, (.assign (.tmp 15)), 88, none⟩])
    (.seq (.seq (.reg [] [⟨some 16, (.move (.tmp 8)), 88, none⟩,
      ⟨some 17, (.call ⟨(.builtin .len), #[(.tmp 16)], #[88]⟩), 3, none⟩,
      ⟨some 18, (.binOp .eql 3 (.tmp 17) (.const (.int .i64 0)) 3), 4, none⟩])
    (.cond (.tmp 18)
    (.seq (.reg [] [⟨some 19, (.build 37 #[]), 37, none⟩,
      ⟨none, (.store 37 (.tmp 6) (.tmp 19)), 0, none⟩,
      ⟨some 7, (.assign (.const (.bool false))), 4, none⟩])
    .ret)
    .skip))
    (.seq (.reg [] [⟨some 20, (.move (.tmp 0)), 22, none⟩,
      ⟨some 21, (.move (.tmp 1)), 23, none⟩,
      ⟨some 22, (.move (.tmp 2)), 23, none⟩,
      ⟨some 23, (.move (.tmp 8)), 88, none⟩,
      ⟨some 24, (.call ⟨(.value (.func 116)), #[(.tmp 20), (.tmp 21), (.tmp 22), (.tmp 23)], #[22, 23, 23, 88]⟩), 3, none⟩,
      ⟨some 9, (.assign (.tmp 24)), 3, none⟩])
    (.seq (.seq (.reg [] [⟨some 25, (.move (.tmp 9)), 3, none⟩,
      ⟨some 26, (.binOp .lss 3 (.tmp 25) (.const (.int .i64 0)) 3), 4, none⟩])
    (.cond (.tmp 26)
    (.seq (.reg [] [⟨some 27, (.move (.tmp 8)), 88, none⟩,
      ⟨some 28, (.move (.tmp 8)), 88, none⟩,
      ⟨some 29, (.call ⟨(.builtin .len), #[(.tmp 28)], #[88]⟩), 3, none⟩,
      ⟨some 30, (.binOp .sub 3 (.tmp 29) (.const (.int .i64 1)) 3), 3, none⟩,
      ⟨some 31, (.indexAddr 88 (.tmp 27) (.tmp 30)), 0, none⟩,
      ⟨some 32, (.load 46 (.tmp 31)), 46, none⟩,
      ⟨some 10, (.alloc 46), 0, none⟩,
      ⟨none, (.store 46 (.tmp 10) (.tmp 32)), 0, none⟩])
    (.seq (.reg [] [⟨some 33, (.fieldAddr 46 (.tmp 10) 0), 0, none⟩,
      ⟨some 34, (.load 3 (.tmp 33)), 3, none⟩,
      ⟨some 35, (.fieldAddr 46 (.tmp 10) 1), 0, none⟩,
      ⟨some 36, (.load 3 (.tmp 35)), 3, none⟩,
      ⟨some 37, (.build 37 #[(0, (.tmp 34)), (1, (.tmp 36))]), 37, none⟩,
      ⟨none, (.store 37 (.tmp 6) (.tmp 37)), 0, none⟩,
      ⟨some 7, (.assign (.const (.bool true))), 4, none⟩])
    .ret))
    .skip))
    (.seq (.draw [] [⟨some 38, (.move (.tmp 8)), 88, none⟩,
      ⟨some 39, (.move (.tmp 9)), 3, none⟩,
      ⟨some 40, (.indexAddr 88 (.tmp 38) (.tmp 39)), 0, none⟩,
      ⟨some 41, (.fieldAddr 46 (.tmp 40) 0), 0, none⟩,
      ⟨some 42, (.load 3 (.tmp 41)), 3, none⟩,
      ⟨some 43, (.move (.tmp 8)), 88, none⟩,
      ⟨some 44, (.move (.tmp 9)), 3, none⟩,
      ⟨some 45, (.indexAddr 88 (.tmp 43) (.tmp 44)), 0, none⟩,
      ⟨some 46, (.fieldAddr 46 (.tmp 45) 1), 0, none⟩,
      ⟨some 47, (.load 3 (.tmp 46)), 3, none⟩,
      ⟨some 48, (.build 37 #[(0, (.tmp 42)), (1, (.tmp 47))]), 37, none⟩,
      ⟨some 11, (.alloc 37), 0, none⟩,
      ⟨none, (.store 37 (.tmp 11) (.tmp 48)), 0, none⟩] [(0, 1), (0, 5), (1, 5), (2, 5), (3, 5), (4, 5), (0, 6), (1, 6), (2, 6), (3, 6), (4, 6), (5, 6), (0, 7), (1, 7), (2, 7), (3, 7), (4, 7), (0, 8), (1, 8), (2, 8), (3, 8), (4, 8), (0, 9), (1, 9), (2, 9), (3, 9), (4, 9), (0, 11), (1, 11), (2, 11), (3, 11), (4, 11), (5, 11), (6, 11), (7, 11), (8, 11), (9, 11), (10, 11)])
    (.seq (.seq (.reg [] [⟨some 49, (.move (.tmp 8)), 88, none⟩,
      ⟨some 50, (.call ⟨(.builtin .len), #[(.tmp 49)], #[88]⟩), 3, none⟩,
      ⟨some 51, (.binOp .gtr 3 (.tmp 50) (.const (.int .i64 1)) 3), 4, none⟩])
    (.cond (.tmp 51)
    (.seq (.reg [] [⟨some 12, (.assign (.const (.int .i64 0))), 3, none⟩])
    (.seq (.seq (.reg [] [⟨some 52, (.move (.tmp 9)), 3, none⟩,
      ⟨some 53, (.binOp .eql 3 (.tmp 52) (.const (.int .i64 0)) 3), 4, none⟩])
    (.cond (.tmp 53)
    (.reg [] [⟨some 12, (.assign (.const (.int .i64 1))), 3, none⟩])
    .skip))
    (.draw [] [⟨some 54, (.move (.tmp 0)), 22, none⟩,
      ⟨some 55, (.move (.tmp 1)), 23, none⟩,
      ⟨some 56, (.move (.tmp 2)), 23, none⟩,
      ⟨some 57, (.move (.tmp 8)), 88, none⟩,
      ⟨some 58, (.move (.tmp 9)), 3, none⟩,
      ⟨some 59, (.indexAddr 88 (.tmp 57) (.tmp 58)), 0, none⟩,
      ⟨some 60, (.load 46 (.tmp 59)), 46, none⟩,
      ⟨some 61, (.move (.tmp 8)), 88, none⟩,
      ⟨some 62, (.move (.tmp 12)), 3, none⟩,
      ⟨some 63, (.indexAddr 88 (.tmp 61) (.tmp 62)), 0, none⟩,
      ⟨some 64, (.load 46 (.tmp 63)), 46, none⟩,
      ⟨some 65, (.call ⟨(.value (.func 124)), #[(.tmp 54), (.tmp 55), (.tmp 56), (.tmp 60), (.tmp 64)], #[22, 23, 23, 46, 46]⟩), 3, none⟩,
      ⟨some 66, (.fieldAddr 37 (.tmp 11) 2), 0, none⟩,
      ⟨none, (.store 3 (.tmp 66) (.tmp 65)), 0, none⟩] [(0, 1), (0, 2), (1, 2), (0, 3), (1, 3), (2, 3), (0, 4), (1, 4), (2, 4), (3, 4), (0, 5), (1, 5), (2, 5), (0, 6), (1, 6), (2, 6), (0, 7), (1, 7), (2, 7), (3, 7), (4, 7), (5, 7), (6, 7), (0, 8), (1, 8), (2, 8), (3, 8), (4, 8), (5, 8), (6, 8), (7, 8), (0, 9), (1, 9), (2, 9), (3, 9), (4, 9), (5, 9), (6, 9), (0, 10), (1, 10), (2, 10), (3, 10), (4, 10), (5, 10), (6, 10)])))
    .skip))
    (.seq (.reg [] [⟨some 67, (.load 37 (.tmp 11)), 37, none⟩,
      ⟨none, (.store 37 (.tmp 6) (.tmp 67)), 0, none⟩,
      ⟨some 7, (.assign (.const (.bool true))), 4, none⟩])
    .ret))))))))
theorem C112 {args : List AV} {r : AV} (hn : args.length ≤ 68) (h : vc Try.prog T [] A112 (Fin T [(.cell 6 37), (.tmp 7)] r) ⟨envOf 0 args, []⟩) : CallP Try.prog 112 args r :=
  callP_of tok mixed Try.func112 (by kernel_rfl) (by kernel_rfl) (by kernel_rfl : Try.f112.ntmps = 68) (by kernel_rfl : Try.f112.body.bind (strip 68 (fun _ => [])) = some A112) hn h
theorem CO112 {args : List AV} {sz : Nat} {els : List AV} (hn : args.length ≤ 68) (h : vc Try.prog T [] A112 (FinO [(.cell 6 37), (.tmp 7)] sz els) ⟨envOf 0 args, []⟩) : CallO Try.prog 112 args sz els :=
  callO_of tok mixed Try.func112 (by kernel_rfl) (by kernel_rfl) (by kernel_rfl : Try.f112.ntmps = 68) (by kernel_rfl : Try.f112.body.bind (strip 68 (fun _ => [])) = some A112) hn h
theorem CL112 {pre suf : List AV} {sz : Nat} {els els' : List AV} {r : LRet} (hn : (pre ++ .sl lid 0 0 els.length :: suf).length ≤ 68) (h : vc Try.prog T [] A112 (FinL T [(.cell 6 37), (.tmp 7)] sz r els') ⟨envOf 0 (pre ++ .sl lid 0 0 els.length :: suf), [(lid, some ⟨sz, els, 0, false⟩)]⟩) : CallL Try.prog 112 pre sz els suf r els' :=
  callL_of tok mixed Try.func112 (by kernel_rfl) (by kernel_rfl) (by kernel_rfl : Try.f112.ntmps = 68) (by kernel_rfl : Try.f112.body.bind (strip 68 (fun _ => [])) = some A112) hn h

/-- vyakarana order.candidates -/
def A113 : ACode :=
  (.seq (.reg [] [⟨some 4, (.assign (.const (.slice none 0 0))), 117, none⟩])
    (.seq (.reg [] [⟨some 5, (.assign (.const (.slice none 0 0))), 117, none⟩])
    (.seq (.reg [] [⟨some 11, (.move (.tmp 0)), 22, none⟩,
      ⟨some 12, (.move (.tmp 1)), 23, none⟩,
      ⟨some 13, (.call ⟨(.value (.func 80)), #[(.tmp 11), (.tmp 12)], #[22, 23]⟩), 89, none⟩,
      ⟨some 10, (.move (.tmp 13)), 89, none⟩,
      ⟨some 14, (.extract (.tmp 10) 0), 88, none⟩,
      ⟨some 15, (.extract (.tmp 10) 1), 29, none⟩,
      ⟨some 6, (.assign (.tmp 14)), 88, none⟩,
      ⟨some 7, (.assign (.tmp 15)), 29, none⟩])
    (.seq (.seq (.reg [] [⟨some 16, (.move (.tmp 6)), 88, none⟩,
      ⟨some 17, (.call ⟨(.builtin .len), #[(.tmp 16)], #[88]⟩), 3, none⟩,
      ⟨some 18, (.move (.const (.int .i64 0))), 3, none⟩])
    (.block 0 (.loop (.seq (.reg [] [⟨some 19, (.binOp .lss 3 (.tmp 18) (.tmp 17) 3), 0, none⟩])
    (.seq (.cond (.tmp 19)
    .skip
    (.exit 0))
    (.seq (.block 1 (.seq (.reg [] [⟨some 20, (.indexAddr 88 (.tmp 16) (.tmp 18)), 0, none⟩,
      ⟨some 21, (.load 46 (.tmp 20)), 46, none⟩,
      ⟨some 9, (.alloc 46), 0, none⟩,
      ⟨none, (.store 46 (.tmp 9) (.tmp 21)), 0, none⟩])
    (.draw [] [⟨some 22, (.move (.tmp 5)), 117, none⟩,
      ⟨some 23, (.load 46 (.tmp 9)), 46, none⟩,
      ⟨some 24, (.move (.tmp 0)), 22, none⟩,
      ⟨some 25, (.fieldAddr 46 (.tmp 9) 0), 0, none⟩,
      ⟨some 26, (.load 3 (.tmp 25)), 3, none⟩,
      ⟨some 27, (.indexAddr 22 (.tmp 24) (.tmp 26)), 0, none⟩,
      ⟨some 28, (.load 72 (.tmp 27)), 72, none⟩,
      ⟨some 29, (.build 120 #[(0, (.tmp 23)), (1, (.tmp 28))]), 120, none⟩,
      ⟨some 30, (.buildSlice 117 1 #[(0, (.tmp 29))]), 117, none⟩,
      ⟨some 31, (.call ⟨(.builtin .append), #[(.tmp 22), (.tmp 30)], #[117, 117]⟩), 117, none⟩,
      ⟨some 5, (.assign (.tmp 31)), 117, none⟩] [(0, 1), (0, 2), (1, 2), (0, 3), (1, 3), (2, 3), (0, 4), (1, 4), (2, 4), (0, 5), (1, 5), (0, 6), (1, 6), (0, 7), (0, 8)])))
    (.reg [] [⟨some 32, (.binOp .add 3 (.tmp 18) (.const (.int .i64 1)) 3), 3, none⟩,
      ⟨some 18, (.move (.tmp 32)), 3, none⟩])))))))
    (.seq (.reg [] [⟨some 33, (.move (.tmp 5)), 117, none⟩,
      ⟨some 4, (.assign (.tmp 33)), 117, none⟩])
    .ret)))))
theorem C113 {args : List AV} {r : AV} (hn : args.length ≤ 34) (h : vc Try.prog T [] A113 (Fin T [(.tmp 4)] r) ⟨envOf 0 args, []⟩) : CallP Try.prog 113 args r :=
  callP_of tok mixed Try.func113 (by kernel_rfl) (by kernel_rfl) (by kernel_rfl : Try.f113.ntmps = 34) (by kernel_rfl : Try.f113.body.bind (strip 34 (fun _ => [])) = some A113) hn h
theorem CO113 {args : List AV} {sz : Nat} {els : List AV} (hn : args.length ≤ 34) (h : vc Try.prog T [] A113 (FinO [(.tmp 4)] sz els) ⟨envOf 0 args, []⟩) : CallO Try.prog 113 args sz els :=
  callO_of tok mixed Try.func113 (by kernel_rfl) (by kernel_rfl) (by kernel_rfl : Try.f113.ntmps = 34) (by kernel_rfl : Try.f113.body.bind (strip 34 (fun _ => [])) = some A113) hn h
theorem CL113 {pre suf : List AV} {sz : Nat} {els els' : List AV} {r : LRet} (hn : (pre ++ .sl lid 0 0 els.length :: suf).length ≤ 34) (h : vc Try.prog T [] A113 (FinL T [(.tmp 4)] sz r els') ⟨envOf 0 (pre ++ .sl lid 0 0 els.length :: suf), [(lid, some ⟨sz, els, 0, false⟩)]⟩) : CallL Try.prog 113 pre sz els suf r els' :=
  callL_of tok mixed Try.func113 (by kernel_rfl) (by kernel_rfl) (by kernel_rfl : Try.f113.ntmps = 34) (by kernel_rfl : Try.f113.body.bind (strip 34 (fun _ => [])) = some A113) hn h

/-- vyakarana order.champion -/
def A114 : ACode :=
  (.seq (.reg [] [⟨some 6, (.alloc 120), 0, none⟩,
      ⟨some 7, (.assign (.const (.bool false))), 4, none⟩])
    (.seq (.reg [] [⟨some 13, (.move (.tmp 2)), 117, none⟩,
      ⟨some 14, (.indexAddr 117 (.tmp 13) (.const (.int .i64 0))), 0, none⟩,
      ⟨some 15, (.load 120 (.tmp 14)), 120, none⟩,
      ⟨some 8, (.alloc 120), 0, none⟩,
      ⟨none, (.store 120 (.tmp 8) (.tmp 15)), 0, none⟩])
    (.seq (.seq (.reg [] [⟨some 16, (.move (.tmp 2)), 117, none⟩,
      ⟨some 17, (.slice 117 (.tmp 16) (some (.const (.int .i64 1))) none none), 117, none⟩,
      ⟨some 18, (.call ⟨(.builtin .len), #[(.tmp 17)], #[117]⟩), 3, none⟩,
      ⟨some 19, (.move (.const (.int .i64 0))), 3, none⟩])
    (.block 0 (.loop (.seq (.reg [] [⟨some 20, (.binOp .lss 3 (.tmp 19) (.tmp 18) 3), 0, none⟩])
    (.seq (.cond (.tmp 20)
    .skip
    (.exit 0))
    (.seq (.block 1 (.seq (.reg [] [⟨some 21, (.indexAddr 117 (.tmp 17) (.tmp 19)), 0, none⟩,
      ⟨some 22, (.load 120 (.tmp 21)), 120, none⟩,
      ⟨some 10, (.alloc 120), 0, none⟩,
      ⟨none, (.store 120 (.tmp 10) (.tmp 22)), 0, none⟩])
    (.seq (.reg [] [⟨some 23, (.move (.tmp 0)), 23, none⟩,
      ⟨some 24, (.move (.tmp 1)), 23, none⟩,
      ⟨some 25, (.load 120 (.tmp 8)), 120, none⟩,
      ⟨some 26, (.load 120 (.tmp 10)), 120, none⟩,
      ⟨some 27, (.call ⟨(.value (.func 123)), #[(.tmp 23), (.tmp 24), (.tmp 25), (.tmp 26)], #[23, 23, 120, 120]⟩), 3, none⟩,
      ⟨some 28, (.binOp .leq 3 (.tmp 27) (.const (.int .i64 0)) 3), 4, none⟩])
    (.cond (.tmp 28)
    (.reg [] [⟨some 29, (.load 120 (.tmp 10)), 120, none⟩,
      ⟨none, (.store 120 (.tmp 8) (.tmp 29)), 0, none⟩])
    .skip))))
    (.reg [] [⟨some 30, (.binOp .add 3 (.tmp 19) (.const (.int .i64 1)) 3), 3, none⟩,
      ⟨some 19, (.move (.tmp 30)), 3, none⟩])))))))
    (.seq (.seq (.reg [] [⟨some 31, (.move (.tmp 2)), 117, none⟩,
      ⟨some 32, (.call ⟨(.builtin .len), #[(.tmp 31)], #[117]⟩), 3, none⟩,
      ⟨some 33, (.move (.const (.int .i64 0))), 3, none⟩])
    (.block 2 (.loop (.seq (.reg [] [⟨some 34, (.binOp .lss 3 (.tmp 33) (.tmp 32) 3), 0, none⟩])
    (.seq (.cond (.tmp 34)
    .skip
    (.exit 2))
    (.seq (.block 3 (.seq (.reg [] [⟨some 35, (.indexAddr 117 (.tmp 31) (.tmp 33)), 0, none⟩,
      ⟨some 36, (.load 120 (.tmp 35)), 120, none⟩,
      ⟨some 12, (.alloc 120), 0, none⟩,
      ⟨none, (.store 120 (.tmp 12) (.tmp 36)), 0, none⟩])
    (.seq (.reg [] [⟨some 37, (.fieldAddr 120 (.tmp 12) 0), 0, none⟩,
      ⟨some 38, (.load 46 (.tmp 37)), 46, none⟩,
      ⟨some 39, (.fieldAddr 120 (.tmp 8) 0), 0, none⟩,
      ⟨some 40, (.load 46 (.tmp 39)), 46, none⟩,
      ⟨some 41, (.binOp .neq 46 (.tmp 38) (.tmp 40) 46), 4, none⟩,
      ⟨some 42, (.move (.tmp 41)), 4, none⟩,
      ⟨some 43, (.move (.tmp 0)), 23, some (42, true)⟩,
      ⟨some 44, (.move (.tmp 1)), 23, some (42, true)⟩,
      ⟨some 45, (.load 120 (.tmp 8)), 120, some (42, true)⟩,
      ⟨some 46, (.load 120 (.tmp 12)), 120, some (42, true)⟩,
      ⟨some 47, (.call ⟨(.value (.func 123)), #[(.tmp 43), (.tmp 44), (.tmp 45), (.tmp 46)], #[23, 23, 120, 120]⟩), 3, some (42, true)⟩,
      ⟨some 48, (.binOp .leq 3 (.tmp 47) (.const (.int .i64 0)) 3), 4, some (42, true)⟩,
      ⟨some 49, (.pick (.tmp 42) (.tmp 48) (.const (.bool false))), 4, none⟩])
    (.cond (.tmp 49)
    (.seq (.reg [] [⟨some 50, (.build 120 #[]), 120, none⟩,
      ⟨none, (.store 120 (.tmp 6) (.tmp 50)), 0, none⟩,
      ⟨some 7, (.assign (.const (.bool false))), 4, none⟩])
    .ret)
    .skip))))
    (.reg [] [⟨some 51, (.binOp .add 3 (.tmp 33) (.const (.int .i64 1)) 3), 3, none⟩,
      ⟨some 33, (.move (.tmp 51)), 3, none⟩])))))))
    (.seq (.reg [] [⟨some 52, (.load 120 (.tmp 8)), 120, none⟩,
      ⟨none, (.store 120 (.tmp 6) (.tmp 52)), 0, none⟩,
      ⟨some 7, (.assign (.const (.bool true))), 4, none⟩])
    .ret)))))
theorem C114 {args : List AV} {r : AV} (hn : args.length ≤ 53) (h : vc Try.prog T [] A114 (Fin T [(.cell 6 120), (.tmp 7)] r) ⟨envOf 0 args, []⟩) : CallP Try.prog 114 args r :=
  callP_of tok mixed Try.func114 (by kernel_rfl) (by kernel_rfl) (by kernel_rfl : Try.f114.ntmps = 53) (by kernel_rfl : Try.f114.body.bind (strip 53 (fun _ => [])) = some A114) hn h
theorem CO114 {args : List AV} {sz : Nat} {els : List AV} (hn : args.length ≤ 53) (h : vc Try.prog T [] A114 (FinO [(.cell 6 120), (.tmp 7)] sz els) ⟨envOf 0 args, []⟩) : CallO Try.prog 114 args sz els :=
  callO_of tok mixed Try.func114 (by kernel_rfl) (by kernel_rfl) (by kernel_rfl : Try.f114.ntmps = 53) (by kernel_rfl : Try.f114.body.bind (strip 53 (fun _ => [])) = some A114) hn h
theorem CL114 {pre suf : List AV} {sz : Nat} {els els' : List AV} {r : LRet} (hn : (pre ++ .sl lid 0 0 els.length :: suf).length ≤ 53) (h : vc Try.prog T [] A114 (FinL T [(.cell 6 120), (.tmp 7)] sz r els') ⟨envOf 0 (pre ++ .sl lid 0 0 els.length :: suf), [(lid, some ⟨sz, els, 0, false⟩)]⟩) : CallL Try.prog 114 pre sz els suf r els' :=
  callL_of tok mixed Try.func114 (by kernel_rfl) (by kernel_rfl) (by kernel_rfl : Try.f114.ntmps = 53) (by kernel_rfl : Try.f114.body.bind (strip 53 (fun _ => [])) = some A114) hn h

/-- vyakarana vyakaranaref04.candidates -/
def A115 : ACode :=
  (.seq (.reg [] [⟨some 4, (.assign (.const (.slice none 0 0))), 88, none⟩])
    (.seq (.reg [] [⟨some 8, (.move (.tmp 0)), 22, none⟩,
      ⟨some 9, (.move (.tmp 1)), 23, none⟩,
      ⟨some 10, (.call ⟨(.value (.func 81)), #[(.tmp 8), (.tmp 9)], #[22, 23]⟩), 89, none⟩,
      ⟨some 7, (.move (.tmp 10)), 89, none⟩,
      ⟨some 11, (.extract (.tmp 7) 0), 88, none⟩,
      ⟨some 12, (.extract (.tmp 7) 1), 29, none⟩,
      ⟨some 5, (.assign (.tmp 11)), 88, none⟩,
      ⟨some 6, (.assign (.tmp 12)), 29, none⟩])
    (.seq (.reg [] [⟨some 13, (.move (.tmp 5)), 88, none⟩,
      ⟨some 4, (.assign (.tmp 13)), 88, none⟩])
    .ret)))
theorem C115 {args : List AV} {r : AV} (hn : args.length ≤ 14) (h : vc Try.prog T [] A115 (Fin T [(.tmp 4)] r) ⟨envOf 0 args, []⟩) : CallP Try.prog 115 args r :=
  callP_of tok mixed Try.func115 (by kernel_rfl) (by kernel_rfl) (by kernel_rfl : Try.f115.ntmps = 14) (by kernel_rfl : Try.f115.body.bind (strip 14 (fun _ => [])) = some A115) hn h
theorem CO115 {args : List AV} {sz : Nat} {els : List AV} (hn : args.length ≤ 14) (h : vc Try.prog T [] A115 (FinO [(.tmp 4)] sz els) ⟨envOf 0 args, []⟩) : CallO Try.prog 115 args sz els :=
  callO_of tok mixed Try.func115 (by kernel_rfl) (by kernel_rfl) (by kernel_rfl : Try.f115.ntmps = 14) (by kernel_rfl : Try.f115.body.bind (strip 14 (fun _ => [])) = some A115) hn h
theorem CL115 {pre suf : List AV} {sz : Nat} {els els' : List AV} {r : LRet} (hn : (pre ++ .sl lid 0 0 els.length :: suf).length ≤ 14) (h : vc Try.prog T [] A115 (FinL T [(.tmp 4)] sz r els') ⟨envOf 0 (pre ++ .sl lid 0 0 els.length :: suf), [(lid, some ⟨sz, els, 0, false⟩)]⟩) : CallL Try.prog 115 pre sz els suf r els' :=
  callL_of tok mixed Try.func115 (by kernel_rfl) (by kernel_rfl) (by kernel_rfl : Try.f115.ntmps = 14) (by kernel_rfl : Try.f115.body.bind (strip 14 (fun _ => [])) = some A115) hn h

/-- vyakarana vyakaranaref04.best -/
def A116 : ACode :=
  (.seq (.reg [] [⟨some 8, (.assign (.const (.int .i64 0))), 3, none⟩])
    (.seq (.seq (.reg [] [⟨some 9, (.assign (.const (.int .i64 0))), 3, none⟩])
    (.block 0 (.loop (.seq (.seq (.reg [] [⟨some 12, (.move (.tmp 9)), 3, none⟩,
      ⟨some 13, (.move (.tmp 3)), 88, none⟩,
      ⟨some 14, (.call ⟨(.builtin .len), #[(.tmp 13)], #[88]⟩), 3, none⟩,
      ⟨some 15, (.binOp .lss 3 (.tmp 12) (.tmp 14) 3), 4, none⟩])
    (.cond (.tmp 15)
    .skip
    (.exit 0)))
    (.seq (.block 1 (.seq (.reg [] [⟨some 10, (.assign (.const (.bool true))), 4, none⟩])
    (.seq (.seq (.reg [] [⟨some 11, (.assign (.const (.int .i64 0))), 3, none⟩])
    (.block 2 (.loop (.seq (.seq (.reg [] [⟨some 18, (.move (.tmp 11)), 3, none⟩,
      ⟨some 19, (.move (.tmp 3)), 88, none⟩,
      ⟨some 20, (.call ⟨(.builtin .len), #[(.tmp 19)], #[88]⟩), 3, none⟩,
      ⟨some 21, (.binOp .lss 3 (.tmp 18) (.tmp 20) 3), 4, none⟩,
      ⟨some 22, (.move (.tmp 21)), 4, none⟩,
      ⟨some 23, (.move (.tmp 10)), 4, some (22, true)⟩,
      ⟨some 24, (.pick (.tmp 22) (.tmp 23) (.const (.bool false))), 4, none⟩])
    (.cond (.tmp 24)
    .skip
    (.exit 2)))
    (.seq (.block 3 (.draw [] [⟨some 27, (.move (.tmp 11)), 3, none⟩,
      ⟨some 28, (.move (.tmp 9)), 3, none⟩,
      ⟨some 29, (.binOp .eql 3 (.tmp 27) (.tmp 28) 3), 4, none⟩,
      ⟨some 30, (.move (.tmp 29)), 4, none⟩,
      ⟨some 31, (.move (.tmp 0)), 22, some (30, false)⟩,
      ⟨some 32, (.move (.tmp 1)), 23, some (30, false)⟩,
      ⟨some 33, (.move (.tmp 2)), 23, some (30, false)⟩,
      ⟨some 34, (.move (.tmp 3)), 88, some (30, false)⟩,
      ⟨some 35, (.move (.tmp 9)), 3, some (30, false)⟩,
      ⟨some 36, (.indexAddr 88 (.tmp 34) (.tmp 35)), 0, some (30, false)⟩,
      ⟨some 37, (.load 46 (.tmp 36)), 46, some (30, false)⟩,
      ⟨some 38, (.move (.tmp 3)), 88, some (30, false)⟩,
      ⟨some 39, (.move (.tmp 11)), 3, some (30, false)⟩,
      ⟨some 40, (.indexAddr 88 (.tmp 38) (.tmp 39)), 0, some (30, false)⟩,
      ⟨some 41, (.load 46 (.tmp 40)), 46, some (30, false)⟩,
      ⟨some 42, (.call ⟨(.value (.func 124)), #[(.tmp 31), (.tmp 32), (.tmp 33), (.tmp 37), (.tmp 41)], #[22, 23, 23, 46, 46]⟩), 3, some (30, false)⟩,
      ⟨some 43, (.binOp .gtr 3 (.tmp 42) (.const (.int .i64 0)) 3), 4, some (30, false)⟩,
      ⟨some 44, (.pick (.tmp 30) (.const (.bool true)) (.tmp 43)), 4, none⟩,
      ⟨some 10, (.assign (.tmp 44)), 4, none⟩] [(0, 1), (4, 5), (4, 6), (5, 6), (4, 7), (5, 7), (6, 7), (4, 8), (5, 8), (6, 8), (7, 8), (4, 9), (5, 9), (6, 9), (4, 10), (5, 10), (6, 10), (4, 11), (5, 11), (6, 11), (7, 11), (8, 11), (9, 11), (10, 11), (4, 12), (5, 12), (6, 12), (7, 12), (8, 12), (9, 12), (10, 12), (11, 12), (4, 13), (5, 13), (6, 13), (7, 13), (8, 13), (9, 13), (10, 13), (4, 14), (5, 14), (6, 14), (7, 14), (8, 14), (9, 14), (10, 14)]))
    (.reg [] [⟨some 25, (.move (.tmp 11)), 3, none⟩,
      ⟨some 26, (.binOp .add 3 (.tmp 25) (.const (.int .i64 1)) 3), 3, none⟩,
      ⟨some 11, (.assign (.tmp 26)), 3, none⟩]))))))
    (.seq (.reg [] [⟨some 45, (.move (.tmp 10)), 4, none⟩])
    (.cond (.tmp 45)
    (.seq (.reg [] [⟨some 46, (.move (.tmp 9)), 3, none⟩,
      ⟨some 8, (.assign (.tmp 46)), 3, none⟩])
    .ret)
    .skip)))))
    (.reg [] [⟨some 16, (.move (.tmp 9)), 3, none⟩,
      ⟨some 17, (.binOp .add 3 (.tmp 16) (.const (.int .i64 1)) 3), 3, none⟩,
      ⟨some 9, (.assign (.tmp 17)), 3, none⟩]))))))
    (.seq (.reg [] [⟨some 8, (.assign (.const (.int .i64 (-1)))), 3, none⟩])
    .ret)))
theorem C116 {args : List AV} {r : AV} (hn : args.length ≤ 47) (h : vc Try.prog T [] A116 (Fin T [(.tmp 8)] r) ⟨envOf 0 args, []⟩) : CallP Try.prog 116 args r :=
  callP_of tok mixed Try.func116 (by kernel_rfl) (by kernel_rfl) (by kernel_rfl : Try.f116.ntmps = 47) (by kernel_rfl : Try.f116.body.bind (strip 47 (fun _ => [])) = some A116) hn h
theorem CO116 {args : List AV} {sz : Nat} {els : List AV} (hn : args.length ≤ 47) (h : vc Try.prog T [] A116 (FinO [(.tmp 8)] sz els) ⟨envOf 0 args, []⟩) : CallO Try.prog 116 args sz els :=
  callO_of tok mixed Try.func116 (by kernel_rfl) (by kernel_rfl) (by kernel_rfl : Try.f116.ntmps = 47) (by kernel_rfl : Try.f116.body.bind (strip 47 (fun _ => [])) = some A116) hn h
theorem CL116 {pre suf : List AV} {sz : Nat} {els els' : List AV} {r : LRet} (hn : (pre ++ .sl lid 0 0 els.length :: suf).length ≤ 47) (h : vc Try.prog T [] A116 (FinL T [(.tmp 8)] sz r els') ⟨envOf 0 (pre ++ .sl lid 0 0 els.length :: suf), [(lid, some ⟨sz, els, 0, false⟩)]⟩) : CallL Try.prog 116 pre sz els suf r els' :=
  callL_of tok mixed Try.func116 (by kernel_rfl) (by kernel_rfl) (by kernel_rfl : Try.f116.ntmps = 47) (by kernel_rfl : Try.f116.body.bind (strip 47 (fun _ => [])) = some A116) hn h

/-- vyakarana order.apply -/
def A117 : ACode :=
  (.seq (.reg [] [⟨some 5, (.box 37 (.tmp 2)), 0, none⟩,
      ⟨some 6, (.assign (.const (.slice none 0 0))), 23, none⟩])
    (.seq (.draw [] [⟨some 10, (.move (.tmp 0)), 22, none⟩,
      ⟨some 11, (.fieldAddr 37 (.tmp 5) 0), 0, none⟩,
      ⟨some 12, (.load 3 (.tmp 11)), 3, none⟩,
      ⟨some 13, (.indexAddr 22 (.tmp 10) (.tmp 12)), 0, none⟩,
      ⟨some 14, (.load 72 (.tmp 13)), 72, none⟩,
      ⟨some 15, (.move (.tmp 1)), 23, none⟩,
      ⟨some 16, (.fieldAddr 37 (.tmp 5) 1), 0, none⟩,
      ⟨some 17, (.load 3 (.tmp 16)), 3, none⟩,
      ⟨some 18, (.call ⟨(.value (.func 70)), #[(.tmp 14), (.tmp 15), (.tmp 17)], #[72, 23, 3]⟩), 32, none⟩,
      ⟨some 9, (.move (.tmp 18)), 32, none⟩,
      ⟨some 19, (.extract (.tmp 9) 0), 23, none⟩,
      ⟨some 20, (.extract (.tmp 9) 1), 29, none⟩,
      ⟨some 7, (.assign (.tmp 19)), 23, none⟩,
      ⟨some 8, (.assign (.tmp 20)), 29, none⟩] [(0, 1), (0, 2), (0, 5), (1, 5), (2, 5), (3, 5), (4, 5), (0, 6), (1, 6), (2, 6), (3, 6), (4, 6), (5, 6), (0, 7), (1, 7), (2, 7), (3, 7), (4, 7), (5, 7), (10, 11), (11, 12)])
    (.seq (.reg [] [⟨some 21, (.move (.tmp 7)), 23, none⟩,
      ⟨some 6, (.assign (.tmp 21)), 23, none⟩])
    .ret)))
theorem C117 {args : List AV} {r : AV} (hn : args.length ≤ 22) (h : vc Try.prog T [] A117 (Fin T [(.tmp 6)] r) ⟨envOf 0 args, []⟩) : CallP Try.prog 117 args r :=
  callP_of tok mixed Try.func117 (by kernel_rfl) (by kernel_rfl) (by kernel_rfl : Try.f117.ntmps = 22) (by kernel_rfl : Try.f117.body.bind (strip 22 (fun _ => [])) = some A117) hn h
theorem CO117 {args : List AV} {sz : Nat} {els : List AV} (hn : args.length ≤ 22) (h : vc Try.prog T [] A117 (FinO [(.tmp 6)] sz els) ⟨envOf 0 args, []⟩) : CallO Try.prog 117 args sz els :=
  callO_of tok mixed Try.func117 (by kernel_rfl) (by kernel_rfl) (by kernel_rfl : Try.f117.ntmps = 22) (by kernel_rfl : Try.f117.body.bind (strip 22 (fun _ => [])) = some A117) hn h
theorem CL117 {pre suf : List AV} {sz : Nat} {els els' : List AV} {r : LRet} (hn : (pre ++ .sl lid 0 0 els.length :: suf).length ≤ 22) (h : vc Try.prog T [] A117 (FinL T [(.tmp 6)] sz r els') ⟨envOf 0 (pre ++ .sl lid 0 0 els.length :: suf), [(lid, some ⟨sz, els, 0, false⟩)]⟩) : CallL Try.prog 117 pre sz els suf r els' :=
  callL_of tok mixed Try.func117 (by kernel_rfl) (by kernel_rfl) (by kernel_rfl : Try.f117.ntmps = 22) (by kernel_rfl : Try.f117.body.bind (strip 22 (fun _ => [])) = some A117) hn h

/-- vyakarana order.lasts -/
def A119 : ACode :=
  (.seq (.reg [] [⟨some 4, (.box 120 (.tmp 1)), 0, none⟩,
      ⟨some 5, (.box 120 (.tmp 2)), 0, none⟩,
      ⟨some 6, (.assign (.const (.bool false))), 4, none⟩])
    (.seq (.reg [] [⟨some 13, (.fieldAddr 120 (.tmp 5) 1), 0, none⟩,
      ⟨some 14, (.load 72 (.tmp 13)), 72, none⟩,
      ⟨some 15, (.move (.tmp 0)), 23, none⟩,
      ⟨some 16, (.fieldAddr 120 (.tmp 5) 0), 0, none⟩,
      ⟨some 17, (.fieldAddr 46 (.tmp 16) 1), 0, none⟩,
      ⟨some 18, (.load 3 (.tmp 17)), 3, none⟩,
      ⟨some 19, (.call ⟨(.value (.func 70)), #[(.tmp 14), (.tmp 15), (.tmp 18)], #[72, 23, 3]⟩), 32, none⟩,
      ⟨some 12, (.move (.tmp 19)), 32, none⟩,
      ⟨some 20, (.extract (.tmp 12) 0), 23, none⟩,
      ⟨some 21, (.extract (.tmp 12) 1), 29, none⟩,
      ⟨some 7, (.assign (.tmp 20)), 23, none⟩,
      ⟨some 8, (.assign (.tmp 21)), 29, none⟩])
    (.seq (.reg [] [⟨some 22, (.fieldAddr 120 (.tmp 4) 0), 0, none⟩,
      ⟨some 23, (.fieldAddr 46 (.tmp 22) 1), 0, none⟩,
      ⟨some 24, (.load 3 (.tmp 23)), 3, none⟩,
      ⟨some 9, (.assign (.tmp 24)), 3, none⟩])
    (.seq (.seq (.reg [] [⟨some 25, (.fieldAddr 120 (.tmp 5) 0), 0, none⟩,
      ⟨some 26, (.fieldAddr 46 (.tmp 25) 1), 0, none⟩,
      ⟨some 27, (.load 3 (.tmp 26)), 3, none⟩,
      ⟨some 28, (.fieldAddr 120 (.tmp 4) 0), 0, none⟩,
      ⟨some 29, (.fieldAddr 46 (.tmp 28) 1), 0, none⟩,
      ⟨some 30, (.load 3 (.tmp 29)), 3, none⟩,
      ⟨some 31, (.binOp .lss 3 (.tmp 27) (.tmp 30) 3), 4, none⟩])
    (.cond (.tmp 31)
    (.seq (.reg [] [⟨some 32, (.move (.tmp 9)), 3, none⟩,
      ⟨some 33, (.fieldAddr 120 (.tmp 5) 1), 0, none⟩,
      ⟨some 34, (.fieldAddr 72 (.tmp 33) 1), 0, none⟩,
      ⟨some 35, (.load 23 (.tmp 34)), 23, none⟩,
      ⟨some 36, (.call ⟨(.builtin .len), #[(.tmp 35)], #[23]⟩), 3, none⟩,
      ⟨some 37, (.binOp .add 3 (.tmp 32) (.tmp 36) 3), 3, none⟩,
      ⟨some 9, (.assign (.tmp 37)), 3, none⟩])
    (.seq (.reg [] [⟨some 38, (.fieldAddr 120 (.tmp 5) 1), 0, none⟩,
      ⟨some 39, (.fieldAddr 72 (.tmp 38) 0), 0, none⟩,
      ⟨some 40, (.load 3 (.tmp 39)), 3, none⟩,
      ⟨some 41, (.binOp .geq 3 (.tmp 40) (.const (.int .i64 0)) 3), 4, none⟩])
    (.cond (.tmp 41)
    (.reg [] [⟨some 42, (.move (.tmp 9)), 3, none⟩,
      ⟨some 43, (.binOp .sub 3 (.tmp 42) (.const (.int .i64 1)) 3), 3, none⟩,
      ⟨some 9, (.assign (.tmp 43)), 3, none⟩])
    .skip)))
    .skip))
    (.seq (.reg [] [⟨some 45, (.fieldAddr 120 (.tmp 4) 1), 0, none⟩,
      ⟨some 46, (.load 72 (.tmp 45)), 72, none⟩,
      ⟨some 47, (.move (.tmp 7)), 23, none⟩,
      ⟨some 48, (.move (.tmp 9)), 3, none⟩,
      ⟨some 49, (.call ⟨(.value (.func 70)), #[(.tmp 46), (.tmp 47), (.tmp 48)], #[72, 23, 3]⟩), 32, none⟩,
      ⟨some 44, (.move (.tmp 49)), 32, none⟩,
      ⟨some 50, (.extract (.tmp 44) 0), 23, none⟩,
      ⟨some 51, (.extract (.tmp 44) 1), 29, none⟩,
      ⟨some 10, (.assign (.tmp 50)), 23, none⟩,
      ⟨some 11, (.assign (.tmp 51)), 29, none⟩])
    (.seq (.reg [] [⟨some 52, (.move (.tmp 11)), 29, none⟩,
      ⟨some 53, (.binOp .eql 29 (.tmp 52) (.const (.int .i64 0)) 29), 4, none⟩,
      ⟨some 6, (.assign (.tmp 53)), 4, none⟩])
    .ret))))))
theorem C119 {args : List AV} {r : AV} (hn : args.length ≤ 54) (h : vc Try.prog T [] A119 (Fin T [(.tmp 6)] r) ⟨envOf 0 args, []⟩) : CallP Try.prog 119 args r :=
  callP_of tok mixed Try.func119 (by kernel_rfl) (by kernel_rfl) (by kernel_rfl : Try.f119.ntmps = 54) (by kernel_rfl : Try.f119.body.bind (strip 54 (fun _ => [])) = some A119) hn h
theorem CO119 {args : List AV} {sz : Nat} {els : List AV} (hn : args.length ≤ 54) (h : vc Try.prog T [] A119 (FinO [(.tmp 6)] sz els) ⟨envOf 0 args, []⟩) : CallO Try.prog 119 args sz els :=
  callO_of tok mixed Try.func119 (by kernel_rfl) (by kernel_rfl) (by kernel_rfl : Try.f119.ntmps = 54) (by kernel_rfl : Try.f119.body.bind (strip 54 (fun _ => [])) = some A119) hn h
theorem CL119 {pre suf : List AV} {sz : Nat} {els els' : List AV} {r : LRet} (hn : (pre ++ .sl lid 0 0 els.length :: suf).length ≤ 54) (h : vc Try.prog T [] A119 (FinL T [(.tmp 6)] sz r els') ⟨envOf 0 (pre ++ .sl lid 0 0 els.length :: suf), [(lid, some ⟨sz, els, 0, false⟩)]⟩) : CallL Try.prog 119 pre sz els suf r els' :=
  callL_of tok mixed Try.func119 (by kernel_rfl) (by kernel_rfl) (by kernel_rfl : Try.f119.ntmps = 54) (by kernel_rfl : Try.f119.body.bind (strip 54 (fun _ => [])) = some A119) hn h

/-- vyakarana vyakaranaref04.word -/
def A120 : ACode :=
  (.seq (.reg [] [⟨some 4, (.assign (.const (.int .i64 0))), 29, none⟩])
    (.seq (.reg [] [⟨some 6, (.move (.tmp 0)), 22, none⟩,
      ⟨some 7, (.call ⟨(.value (.func 84)), #[(.tmp 6)], #[22]⟩), 29, none⟩,
      ⟨some 5, (.assign (.tmp 7)), 29, none⟩])
    (.seq (.seq (.reg [] [⟨some 8, (.move (.tmp 5)), 29, none⟩,
      ⟨some 9, (.binOp .neq 29 (.tmp 8) (.const (.int .i64 0)) 29), 4, none⟩])
    (.cond (.tmp 9)
    (.seq (.reg [] [⟨some 10, (.move (.tmp 5)), 29, none⟩,
      ⟨some 4, (.assign (.tmp 10)), 29, none⟩])
    .ret)
    .skip))
    (.seq (.reg [] [⟨some 11, (.move (.tmp 1)), 23, none⟩,
      ⟨some 12, (.call ⟨(.value (.func 138)), #[(.tmp 11)], #[23]⟩), 29, none⟩,
      ⟨some 4, (.assign (.tmp 12)), 29, none⟩])
    .ret))))
theorem C120 {args : List AV} {r : AV} (hn : args.length ≤ 13) (h : vc Try.prog T [] A120 (Fin T [(.tmp 4)] r) ⟨envOf 0 args, []⟩) : CallP Try.prog 120 args r :=
  callP_of tok mixed Try.func120 (by kernel_rfl) (by kernel_rfl) (by kernel_rfl : Try.f120.ntmps = 13) (by kernel_rfl : Try.f120.body.bind (strip 13 (fun _ => [])) = some A120) hn h
theorem CO120 {args : List AV} {sz : Nat} {els : List AV} (hn : args.length ≤ 13) (h : vc Try.prog T [] A120 (FinO [(.tmp 4)] sz els) ⟨envOf 0 args, []⟩) : CallO Try.prog 120 args sz els :=
  callO_of tok mixed Try.func120 (by kernel_rfl) (by kernel_rfl) (by kernel_rfl : Try.f120.ntmps = 13) (by kernel_rfl : Try.f120.body.bind (strip 13 (fun _ => [])) = some A120) hn h
theorem CL120 {pre suf : List AV} {sz : Nat} {els els' : List AV} {r : LRet} (hn : (pre ++ .sl lid 0 0 els.length :: suf).length ≤ 13) (h : vc Try.prog T [] A120 (FinL T [(.tmp 4)] sz r els') ⟨envOf 0 (pre ++ .sl lid 0 0 els.length :: suf), [(lid, some ⟨sz, els, 0, false⟩)]⟩) : CallL Try.prog 120 pre sz els suf r els' :=
  callL_of tok mixed Try.func120 (by kernel_rfl) (by kernel_rfl) (by kernel_rfl : Try.f120.ntmps = 13) (by kernel_rfl : Try.f120.body.bind (strip 13 (fun _ => [])) = some A120) hn h

/-- vyakarana vyakaranaref04.lasts -/
def A122 : ACode :=
  (.seq (.reg [] [⟨some 6, (.box 46 (.tmp 2)), 0, none⟩,
      ⟨some 7, (.box 46 (.tmp 3)), 0, none⟩,
      ⟨some 8, (.assign (.const (.bool false))), 4, none⟩])
    (.seq (.reg [] [⟨some 12, (.fieldAddr 46 (.tmp 6) 1), 0, none⟩,
      ⟨some 13, (.load 3 (.tmp 12)), 3, none⟩,
      ⟨some 9, (.assign (.tmp 13)), 3, none⟩])
    (.seq (.seq (.reg [] [⟨some 14, (.fieldAddr 46 (.tmp 7) 1), 0, none⟩,
      ⟨some 15, (.load 3 (.tmp 14)), 3, none⟩,
      ⟨some 16, (.fieldAddr 46 (.tmp 6) 1), 0, none⟩,
      ⟨some 17, (.load 3 (.tmp 16)), 3, none⟩,
      ⟨some 18, (.binOp .lss 3 (.tmp 15) (.tmp 17) 3), 4, none⟩])
    (.cond (.tmp 18)
    (.seq (.reg [] [⟨some 19, (.move (.tmp 9)), 3, none⟩,
      ⟨some 20, (.move (.tmp 0)), 22, none⟩,
      ⟨some 21, (.fieldAddr 46 (.tmp 7) 0), 0, none⟩,
      ⟨some 22, (.load 3 (.tmp 21)), 3, none⟩,
      ⟨some 23, (.indexAddr 22 (.tmp 20) (.tmp 22)), 0, none⟩,
      ⟨some 24, (.fieldAddr 72 (.tmp 23) 1), 0, none⟩,
      ⟨some 25, (.load 23 (.tmp 24)), 23, none⟩,
      ⟨some 26, (.call ⟨(.builtin .len), #[(.tmp 25)], #[23]⟩), 3, none⟩,
      ⟨some 27, (.binOp .add 3 (.tmp 19) (.tmp 26) 3), 3, none⟩,
      ⟨some 9, (.assign (.tmp 27)), 3, none⟩])
    (.seq (.reg [] [⟨some 28, (.move (.tmp 0)), 22, none⟩,
      ⟨some 29, (.fieldAddr 46 (.tmp 7) 0), 0, none⟩,
      ⟨some 30, (.load 3 (.tmp 29)), 3, none⟩,
      ⟨some 31, (.indexAddr 22 (.tmp 28) (.tmp 30)), 0, none⟩,
      ⟨some 32, (.fieldAddr 72 (.tmp 31) 0), 0, none⟩,
      ⟨some 33, (.load 3 (.tmp 32)), 3, none⟩,
      ⟨some 34, (.binOp .geq 3 (.tmp 33) (.const (.int .i64 0)) 3), 4, none⟩])
    (.cond (.tmp 34)
    (.reg [] [⟨some 35, (.move (.tmp 9)), 3, none⟩,
      ⟨some 36, (.binOp .sub 3 (.tmp 35) (.const (.int .i64 1)) 3), 3, none⟩,
      ⟨some 9, (.assign (.tmp 36)), 3, none⟩])
    .skip)))
    .skip))
    (.seq (.draw [] [⟨some 38, (.move (.tmp 0)), 22, none⟩,
      ⟨some 39, (.fieldAddr 46 (.tmp 6) 0), 0, none⟩,
      ⟨some 40, (.load 3 (.tmp 39)), 3, none⟩,
      ⟨some 41, (.indexAddr 22 (.tmp 38) (.tmp 40)), 0, none⟩,
      ⟨some 42, (.load 72 (.tmp 41)), 72, none⟩,
      ⟨some 43, (.move (.tmp 0)), 22, none⟩,
      ⟨some 44, (.move (.tmp 1)), 23, none⟩,
      ⟨some 45, (.load 46 (.tmp 7)), 46, none⟩,
      ⟨some 46, (.call ⟨(.value (.func 183)), #[(.tmp 43), (.tmp 44), (.tmp 45)], #[22, 23, 46]⟩), 23, none⟩,
      ⟨some 47, (.move (.tmp 9)), 3, none⟩,
      ⟨some 48, (.call ⟨(.value (.func 177)), #[(.tmp 42), (.tmp 46), (.tmp 47)], #[72, 23, 3]⟩), 32, none⟩,
      ⟨some 37, (.move (.tmp 48)), 32, none⟩,
      ⟨some 49, (.extract (.tmp 37) 0), 23, none⟩,
      ⟨some 50, (.extract (.tmp 37) 1), 29, none⟩,
      ⟨some 10, (.assign (.tmp 49)), 23, none⟩,
      ⟨some 11, (.assign (.tmp 50)), 29, none⟩] [(0, 1), (0, 2), (0, 5), (1, 5), (2, 5), (3, 5), (4, 5), (0, 6), (1, 6), (2, 6), (3, 6), (4, 6), (5, 6), (0, 7), (1, 7), (2, 7), (3, 7), (4, 7), (5, 7), (6, 7), (0, 8), (1, 8), (2, 8), (3, 8), (4, 8), (0, 9), (1, 9), (2, 9), (3, 9), (4, 9), (5, 9), (6, 9), (7, 9), (8, 9), (12, 13), (13, 14)])
    (.seq (.reg [] [⟨some 51, (.move (.tmp 11)), 29, none⟩,
      ⟨some 52, (.binOp .eql 29 (.tmp 51) (.const (.int .i64 0)) 29), 4, none⟩,
      ⟨some 8, (.assign (.tmp 52)), 4, none⟩])
    .ret)))))
theorem C122 {args : List AV} {r : AV} (hn : args.length ≤ 53) (h : vc Try.prog T [] A122 (Fin T [(.tmp 8)] r) ⟨envOf 0 args, []⟩) : CallP Try.prog 122 args r :=
  callP_of tok mixed Try.func122 (by kernel_rfl) (by kernel_rfl) (by kernel_rfl : Try.f122.ntmps = 53) (by kernel_rfl : Try.f122.body.bind (strip 53 (fun _ => [])) = some A122) hn h
theorem CO122 {args : List AV} {sz : Nat} {els : List AV} (hn : args.length ≤ 53) (h : vc Try.prog T [] A122 (FinO [(.tmp 8)] sz els) ⟨envOf 0 args, []⟩) : CallO Try.prog 122 args sz els :=
  callO_of tok mixed Try.func122 (by kernel_rfl) (by kernel_rfl) (by kernel_rfl : Try.f122.ntmps = 53) (by kernel_rfl : Try.f122.body.bind (strip 53 (fun _ => [])) = some A122) hn h
theorem CL122 {pre suf : List AV} {sz : Nat} {els els' : List AV} {r : LRet} (hn : (pre ++ .sl lid 0 0 els.length :: suf).length ≤ 53) (h : vc Try.prog T [] A122 (FinL T [(.tmp 8)] sz r els') ⟨envOf 0 (pre ++ .sl lid 0 0 els.length :: suf), [(lid, some ⟨sz, els, 0, false⟩)]⟩) : CallL Try.prog 122 pre sz els suf r els' :=
  callL_of tok mixed Try.func122 (by kernel_rfl) (by kernel_rfl) (by kernel_rfl : Try.f122.ntmps = 53) (by kernel_rfl : Try.f122.body.bind (strip 53 (fun _ => [])) = some A122) hn h

/-- vyakarana order.beats -/
def A123 : ACode :=
  (.seq (.reg [] [⟨some 6, (.box 120 (.tmp 2)), 0, none⟩,
      ⟨some 7, (.box 120 (.tmp 3)), 0, none⟩,
      ⟨some 8, (.assign (.const (.int .i64 0))), 3, none⟩])
    (.seq (.seq (.reg [] [⟨some 12, (.move (.tmp 1)), 23, none⟩,
      ⟨some 13, (.call ⟨(.builtin .len), #[(.tmp 12)], #[23]⟩), 3, none⟩,
      ⟨some 14, (.move (.const (.int .i64 0))), 3, none⟩])
    (.block 0 (.loop (.seq (.reg [] [⟨some 15, (.binOp .lss 3 (.tmp 14) (.tmp 13) 3), 0, none⟩])
    (.seq (.cond (.tmp 15)
    .skip
    (.exit 0))
    (.seq (.block 1 (.seq (.reg [] [⟨some 16, (.indexAddr 23 (.tmp 12) (.tmp 14)), 0, none⟩,
      ⟨some 17, (.load 3 (.tmp 16)), 3, none⟩,
      ⟨some 10, (.assign (.tmp 17)), 3, none⟩])
    (.seq (.reg [] [⟨some 18, (.move (.tmp 0)), 23, none⟩,
      ⟨some 19, (.move (.tmp 10)), 3, none⟩,
      ⟨some 20, (.load 120 (.tmp 6)), 120, none⟩,
      ⟨some 21, (.load 120 (.tmp 7)), 120, none⟩,
      ⟨some 22, (.call ⟨(.value (.func 125)), #[(.tmp 18), (.tmp 19), (.tmp 20), (.tmp 21)], #[23, 3, 120, 120]⟩), 3, none⟩,
      ⟨some 11, (.assign (.tmp 22)), 3, none⟩])
    (.seq (.reg [] [⟨some 23, (.move (.tmp 11)), 3, none⟩,
      ⟨some 24, (.binOp .neq 3 (.tmp 23) (.const (.int .i64 0)) 3), 4, none⟩])
    (.cond (.tmp 24)
    (.seq (.reg [] [⟨some 25, (.move (.tmp 11)), 3, none⟩,
      ⟨some 26, (.move (.tmp 10)), 3, none⟩,
      ⟨some 27, (.binOp .mul 3 (.tmp 25) (.tmp 26) 3), 3, none⟩,
      ⟨some 8, (.assign (.tmp 27)), 3, none⟩])
    .ret)
    .skip)))))
    (.reg [] [⟨some 28, (.binOp .add 3 (.tmp 14) (.const (.int .i64 1)) 3), 3, none⟩,
      ⟨some 14, (.move (.tmp 28)), 3, none⟩])))))))
    (.seq (.reg [] [⟨some 8, (.assign (.const (.int .i64 0))), 3, none⟩])
    .ret)))
theorem C123 {args : List AV} {r : AV} (hn : args.length ≤ 29) (h : vc Try.prog T [] A123 (Fin T [(.tmp 8)] r) ⟨envOf 0 args, []⟩) : CallP Try.prog 123 args r :=
  callP_of tok mixed Try.func123 (by kernel_rfl) (by kernel_rfl) (by kernel_rfl : Try.f123.ntmps = 29) (by kernel_rfl : Try.f123.body.bind (strip 29 (fun _ => [])) = some A123) hn h
theorem CO123 {args : List AV} {sz : Nat} {els : List AV} (hn : args.length ≤ 29) (h : vc Try.prog T [] A123 (FinO [(.tmp 8)] sz els) ⟨envOf 0 args, []⟩) : CallO Try.prog 123 args sz els :=
  callO_of tok mixed Try.func123 (by kernel_rfl) (by kernel_rfl) (by kernel_rfl : Try.f123.ntmps = 29) (by kernel_rfl : Try.f123.body.bind (strip 29 (fun _ => [])) = some A123) hn h
theorem CL123 {pre suf : List AV} {sz : Nat} {els els' : List AV} {r : LRet} (hn : (pre ++ .sl lid 0 0 els.length :: suf).length ≤ 29) (h : vc Try.prog T [] A123 (FinL T [(.tmp 8)] sz r els') ⟨envOf 0 (pre ++ .sl lid 0 0 els.length :: suf), [(lid, some ⟨sz, els, 0, false⟩)]⟩) : CallL Try.prog 123 pre sz els suf r els' :=
  callL_of tok mixed Try.func123 (by kernel_rfl) (by kernel_rfl) (by kernel_rfl : Try.f123.ntmps = 29) (by kernel_rfl : Try.f123.body.bind (strip 29 (fun _ => [])) = some A123) hn h

/-- vyakarana vyakaranaref04.beats -/
def A124 : ACode :=
  (.seq (.reg [] [⟨some 8, (.box 46 (.tmp 3)), 0, none⟩,
      ⟨some 9, (.box 46 (.tmp 4)), 0, none⟩,
      ⟨some 10, (.assign (.const (.int .i64 0))), 3, none⟩])
    (.seq (.seq (.reg [] [⟨some 11, (.assign (.const (.int .i64 0))), 3, none⟩])
    (.block 0 (.loop (.seq (.seq (.reg [] [⟨some 13, (.move (.tmp 11)), 3, none⟩,
      ⟨some 14, (.move (.tmp 2)), 23, none⟩,
      ⟨some 15, (.call ⟨(.builtin .len), #[(.tmp 14)], #[23]⟩), 3, none⟩,
      ⟨some 16, (.binOp .lss 3 (.tmp 13) (.tmp 15) 3), 4, none⟩])
    (.cond (.tmp 16)
    .skip
    (.exit 0)))
    (.seq (.block 1 (.seq (.draw [] [⟨some 19, (.move (.tmp 0)), 22, none⟩,
      ⟨some 20, (.move (.tmp 1)), 23, none⟩,
      ⟨some 21, (.move (.tmp 2)), 23, none⟩,
      ⟨some 22, (.move (.tmp 11)), 3, none⟩,
      ⟨some 23, (.indexAddr 23 (.tmp 21) (.tmp 22)), 0, none⟩,
      ⟨some 24, (.load 3 (.tmp 23)), 3, none⟩,
      ⟨some 25, (.load 46 (.tmp 8)), 46, none⟩,
      ⟨some 26, (.load 46 (.tmp 9)), 46, none⟩,
      ⟨some 27, (.call ⟨(.value (.func 126)), #[(.tmp 19), (.tmp 20), (.tmp 24), (.tmp 25), (.tmp 26)], #[22, 23, 3, 46, 46]⟩), 3, none⟩,
      ⟨some 12, (.assign (.tmp 27)), 3, none⟩] [(0, 1), (0, 2), (1, 2), (0, 3), (1, 3), (2, 3), (0, 4), (1, 4), (0, 5), (1, 5), (0, 6), (1, 6), (2, 6), (3, 6), (4, 6), (5, 6), (0, 7), (1, 7), (2, 7), (3, 7), (4, 7), (5, 7), (6, 7)])
    (.seq (.reg [] [⟨some 28, (.move (.tmp 12)), 3, none⟩,
      ⟨some 29, (.binOp .neq 3 (.tmp 28) (.const (.int .i64 0)) 3), 4, none⟩])
    (.cond (.tmp 29)
    (.seq (.reg [] [⟨some 30, (.move (.tmp 12)), 3, none⟩,
      ⟨some 31, (.move (.tmp 2)), 23, none⟩,
      ⟨some 32, (.move (.tmp 11)), 3, none⟩,
      ⟨some 33, (.indexAddr 23 (.tmp 31) (.tmp 32)), 0, none⟩,
      ⟨some 34, (.load 3 (.tmp 33)), 3, none⟩,
      ⟨some 35, (.binOp .mul 3 (.tmp 30) (.tmp 34) 3), 3, none⟩,
      ⟨some 10, (.assign (.tmp 35)), 3, none⟩])
    .ret)
    .skip))))
    (.reg [] [⟨some 17, (.move (.tmp 11)), 3, none⟩,
      ⟨some 18, (.binOp .add 3 (.tmp 17) (.const (.int .i64 1)) 3), 3, none⟩,
      ⟨some 11, (.assign (.tmp 18)), 3, none⟩]))))))
    (.seq (.reg [] [⟨some 10, (.assign (.const (.int .i64 0))), 3, none⟩])
    .ret)))
theorem C124 {args : List AV} {r : AV} (hn : args.length ≤ 36) (h : vc Try.prog T [] A124 (Fin T [(.tmp 10)] r) ⟨envOf 0 args, []⟩) : CallP Try.prog 124 args r :=
  callP_of tok mixed Try.func124 (by kernel_rfl) (by kernel_rfl) (by kernel_rfl : Try.f124.ntmps = 36) (by kernel_rfl : Try.f124.body.bind (strip 36 (fun _ => [])) = some A124) hn h
theorem CO124 {args : List AV} {sz : Nat} {els : List AV} (hn : args.length ≤ 36) (h : vc Try.prog T [] A124 (FinO [(.tmp 10)] sz els) ⟨envOf 0 args, []⟩) : CallO Try.prog 124 args sz els :=
  callO_of tok mixed Try.func124 (by kernel_rfl) (by kernel_rfl) (by kernel_rfl : Try.f124.ntmps = 36) (by kernel_rfl : Try.f124.body.bind (strip 36 (fun _ => [])) = some A124) hn h
theorem CL124 {pre suf : List AV} {sz : Nat} {els els' : List AV} {r : LRet} (hn : (pre ++ .sl lid 0 0 els.length :: suf).length ≤ 36) (h : vc Try.prog T [] A124 (FinL T [(.tmp 10)] sz r els') ⟨envOf 0 (pre ++ .sl lid 0 0 els.length :: suf), [(lid, some ⟨sz, els, 0, false⟩)]⟩) : CallL Try.prog 124 pre sz els suf r els' :=
  callL_of tok mixed Try.func124 (by kernel_rfl) (by kernel_rfl) (by kernel_rfl : Try.f124.ntmps = 36) (by kernel_rfl : Try.f124.body.bind (strip 36 (fun _ => [])) = some A124) hn h

/-- vyakarana order.decide -/
def A125 : ACode :=
  (.seq (.reg [] [⟨some 6, (.box 120 (.tmp 2)), 0, none⟩,
      ⟨some 7, (.box 120 (.tmp 3)), 0, none⟩,
      ⟨some 8, (.assign (.const (.int .i64 0))), 3, none⟩])
    (.seq (.reg [] [⟨some 10, (.call ⟨(.value (.func 188)), #[], #[]⟩), 195, none⟩,
      ⟨some 11, (.move (.tmp 1)), 3, none⟩,
      ⟨some 12, (.binOp .sub 3 (.tmp 11) (.const (.int .i64 1)) 3), 3, none⟩,
      ⟨some 13, (.index 195 (.tmp 10) (.tmp 12)), 194, none⟩,
      ⟨some 9, (.alloc 194), 0, none⟩,
      ⟨none, (.store 194 (.tmp 9) (.tmp 13)), 0, none⟩])
    (.seq (.block 0 (.seq (.reg [] [⟨some 15, (.fieldAddr 194 (.tmp 9) 0), 0, none⟩,
      ⟨some 16, (.load 128 (.tmp 15)), 128, none⟩,
      ⟨some 17, (.move (.tmp 0)), 23, none⟩,
      ⟨some 18, (.load 120 (.tmp 6)), 120, none⟩,
      ⟨some 19, (.load 120 (.tmp 7)), 120, none⟩,
      ⟨some 20, (.call ⟨(.value (.tmp 16)), #[(.tmp 17), (.tmp 18), (.tmp 19)], #[23, 120, 120]⟩), 4, none⟩,
      ⟨some 14, (.assign (.tmp 20)), 4, none⟩])
    (.cond (.tmp 14)
    (.seq (.reg [] [⟨some 8, (.assign (.const (.int .i64 1))), 3, none⟩])
    .ret)
    (.seq (.reg [] [⟨some 22, (.fieldAddr 194 (.tmp 9) 0), 0, none⟩,
      ⟨some 23, (.load 128 (.tmp 22)), 128, none⟩,
      ⟨some 24, (.move (.tmp 0)), 23, none⟩,
      ⟨some 25, (.load 120 (.tmp 7)), 120, none⟩,
      ⟨some 26, (.load 120 (.tmp 6)), 120, none⟩,
      ⟨some 27, (.call ⟨(.value (.tmp 23)), #[(.tmp 24), (.tmp 25), (.tmp 26)], #[23, 120, 120]⟩), 4, none⟩,
      ⟨some 21, (.assign (.tmp 27)), 4, none⟩])
    (.cond (.tmp 21)
    (.seq (.reg [] [⟨some 8, (.assign (.const (.int .i64 (-1)))), 3, none⟩])
    .ret)
    .skip)))))
    (.seq (.reg [] [⟨some 8, (.assign (.const (.int .i64 0))), 3, none⟩])
    .ret))))
theorem C125 {args : List AV} {r : AV} (hn : args.length ≤ 28) (h : vc Try.prog T [] A125 (Fin T [(.tmp 8)] r) ⟨envOf 0 args, []⟩) : CallP Try.prog 125 args r :=
  callP_of tok mixed Try.func125 (by kernel_rfl) (by kernel_rfl) (by kernel_rfl : Try.f125.ntmps = 28) (by kernel_rfl : Try.f125.body.bind (strip 28 (fun _ => [])) = some A125) hn h
theorem CO125 {args : List AV} {sz : Nat} {els : List AV} (hn : args.length ≤ 28) (h : vc Try.prog T [] A125 (FinO [(.tmp 8)] sz els) ⟨envOf 0 args, []⟩) : CallO Try.prog 125 args sz els :=
  callO_of tok mixed Try.func125 (by kernel_rfl) (by kernel_rfl) (by kernel_rfl : Try.f125.ntmps = 28) (by kernel_rfl : Try.f125.body.bind (strip 28 (fun _ => [])) = some A125) hn h
theorem CL125 {pre suf : List AV} {sz : Nat} {els els' : List AV} {r : LRet} (hn : (pre ++ .sl lid 0 0 els.length :: suf).length ≤ 28) (h : vc Try.prog T [] A125 (FinL T [(.tmp 8)] sz r els') ⟨envOf 0 (pre ++ .sl lid 0 0 els.length :: suf), [(lid, some ⟨sz, els, 0, false⟩)]⟩) : CallL Try.prog 125 pre sz els suf r els' :=
  callL_of tok mixed Try.func125 (by kernel_rfl) (by kernel_rfl) (by kernel_rfl : Try.f125.ntmps = 28) (by kernel_rfl : Try.f125.body.bind (strip 28 (fun _ => [])) = some A125) hn h

/-- vyakarana vyakaranaref04.decide -/
def A126 : ACode :=
  (.seq (.reg [] [⟨some 8, (.box 46 (.tmp 3)), 0, none⟩,
      ⟨some 9, (.box 46 (.tmp 4)), 0, none⟩,
      ⟨some 10, (.assign (.const (.int .i64 0))), 3, none⟩])
    (.seq (.seq (.reg [] [⟨some 11, (.move (.tmp 0)), 22, none⟩,
      ⟨some 12, (.move (.tmp 1)), 23, none⟩,
      ⟨some 13, (.move (.tmp 2)), 3, none⟩,
      ⟨some 14, (.load 46 (.tmp 8)), 46, none⟩,
      ⟨some 15, (.load 46 (.tmp 9)), 46, none⟩,
      ⟨some 16, (.call ⟨(.value (.func 189)), #[(.tmp 11), (.tmp 12), (.tmp 13), (.tmp 14), (.tmp 15)], #[22, 23, 3, 46, 46]⟩), 4, none⟩])
    (.cond (.tmp 16)
    (.seq (.reg [] [⟨some 10, (.assign (.const (.int .i64 1))), 3, none⟩])
    .ret)
    .skip))
    (.seq (.seq (.reg [] [⟨some 17, (.move (.tmp 0)), 22, none⟩,
      ⟨some 18, (.move (.tmp 1)), 23, none⟩,
      ⟨some 19, (.move (.tmp 2)), 3, none⟩,
      ⟨some 20, (.load 46 (.tmp 9)), 46, none⟩,
      ⟨some 21, (.load 46 (.tmp 8)), 46, none⟩,
      ⟨some 22, (.call ⟨(.value (.func 189)), #[(.tmp 17), (.tmp 18), (.tmp 19), (.tmp 20), (.tmp 21)], #[22, 23, 3, 46, 46]⟩), 4, none⟩])
    (.cond (.tmp 22)
    (.seq (.reg [] [⟨some 10, (.assign (.const (.int .i64 (-1)))), 3, none⟩])
    .ret)
    .skip))
    (.seq (.reg [] [⟨some 10, (.assign (.const (.int .i64 0))), 3, none⟩])
    .ret))))
theorem C126 {args : List AV} {r : AV} (hn : args.length ≤ 23) (h : vc Try.prog T [] A126 (Fin T [(.tmp 10)] r) ⟨envOf 0 args, []⟩) : CallP Try.prog 126 args r :=
  callP_of tok mixed Try.func126 (by kernel_rfl) (by kernel_rfl) (by kernel_rfl : Try.f126.ntmps = 23) (by kernel_rfl : Try.f126.body.bind (strip 23 (fun _ => [])) = some A126) hn h
theorem CO126 {args : List AV} {sz : Nat} {els : List AV} (hn : args.length ≤ 23) (h : vc Try.prog T [] A126 (FinO [(.tmp 10)] sz els) ⟨envOf 0 args, []⟩) : CallO Try.prog 126 args sz els :=
  callO_of tok mixed Try.func126 (by kernel_rfl) (by kernel_rfl) (by kernel_rfl : Try.f126.ntmps = 23) (by kernel_rfl : Try.f126.body.bind (strip 23 (fun _ => [])) = some A126) hn h
theorem CL126 {pre suf : List AV} {sz : Nat} {els els' : List AV} {r : LRet} (hn : (pre ++ .sl lid 0 0 els.length :: suf).length ≤ 23) (h : vc Try.prog T [] A126 (FinL T [(.tmp 10)] sz r els') ⟨envOf 0 (pre ++ .sl lid 0 0 els.length :: suf), [(lid, some ⟨sz, els, 0, false⟩)]⟩) : CallL Try.prog 126 pre sz els suf r els' :=
  callL_of tok mixed Try.func126 (by kernel_rfl) (by kernel_rfl) (by kernel_rfl : Try.f126.ntmps = 23) (by kernel_rfl : Try.f126.body.bind (strip 23 (fun _ => [])) = some A126) hn h


end Go.Proofs.Ytaooenmkofjafaa
end

section
/- Contracts: rule.Places, rule.Apply and the checks of systems. -/
namespace Go.Proofs.Ytaooenmkofjafaa
open Go.Abs Go
set_option maxRecDepth 20000
set_option maxHeartbeats 2000000
attribute [local irreducible] PreK CondK CallK CallG CallX LoopK

theorem wordErr_zero {w : List Int} (h : wordErr w = 0) : w.length ≤ 8 ∧ w.all isSound = true := by
  unfold wordErr at h
  by_cases h1 : 8 < w.length
  · simp [h1] at h
  · rw [if_neg h1] at h
    by_cases h2 : w.any (fun x => !isSound x) = true
    · rw [if_pos h2] at h; cases h
    · refine ⟨by omega, ?_⟩
      rw [List.all_eq_true]
      intro x hx
      simp only [List.any_eq_true, not_exists, not_and] at h2
      simpa using h2 x hx
theorem wordedErr_zero {r : Rule} {w : List Int} (h : wordedErr r w = 0) : ruleErr r = 0 ∧ wordErr w = 0 := by
  unfold wordedErr at h
  by_cases h1 : ruleErr r = 0
  · simp [h1] at h; exact ⟨h1, h⟩
  · simp [h1] at h
def placesM (r : Rule) (w : List Int) : List Int := placesF r w 0 (w.length + 1 - (long r).toNat)
def PlacesM (r : Rule) (w : List Int) : List Int × Int := if wordedErr r w ≠ 0 then ([], wordedErr r w) else (placesM r w, 0)
theorem Places_c (r : Rule) (w : List Int) (h : r.small) (hw : w.length ≤ 1000) : CallP Try.prog 60 [ruleV r, ints w] (.tup [ints (PlacesM r w).1, iv (PlacesM r w).2]) := by
  refine C60 (by simp) ?_
  simp [A60]
  try simp 
  repeat' (first
    | (refine CallX.pure (worded_c r w h hw) (by simp) (by simp) ?_; try simp )
    | (refine CallK.intro (worded_c r w h hw) (by simp) (by simp) ?_; try simp )
    | (refine CallG.intro (fun _ => worded_c r w h hw) (by simp) (by simp) ?_; try simp )
    | ((with_reducible refine PreK.intro ?_ ?_); (next => (first | omega | (intros; first | omega | (refine ⟨by omega, ?_⟩; repeat (first | assumption | constructor)) | assumption))); intro _; try simp )
    | fail)
  refine CondK.intro (fun h1 => ?_) (fun h1 => ?_)
  · simp at h1
    simp [PlacesM, h1]
  · simp at h1
    obtain ⟨h2, h3⟩ := wordedErr_zero h1
    obtain ⟨h4, h5⟩ := wordErr_zero h3
    try simp 
    repeat' (first
      | (refine CallX.pure (places_c r w h hw h5) (by simp) (by simp) ?_; try simp )
      | (refine CallK.intro (places_c r w h hw h5) (by simp) (by simp) ?_; try simp )
      | (refine CallG.intro (fun _ => places_c r w h hw h5) (by simp) (by simp) ?_; try simp )
      | ((with_reducible refine PreK.intro ?_ ?_); (next => (first | omega | (intros; first | omega | (refine ⟨by omega, ?_⟩; repeat (first | assumption | constructor)) | assumption))); intro _; try simp )
      | fail)
    simp [PlacesM, h1, placesM]

theorem placesF_any (r : Rule) (w : List Int) (p : Int) : ∀ (n i : Nat), (placesF r w i n).any (fun x => decide (p = x)) = (decide ((i : Int) ≤ p) && (decide (p < (i : Int) + n) && isAt r w p.toNat))
  | 0, i => by
    simp only [placesF, List.any_nil]
    by_cases h : (i : Int) ≤ p
    · have : ¬ p < (i : Int) + (0 : Nat) := by omega
      simp only [this, decide_false, Bool.false_and, Bool.and_false]
    · simp [h]
  | n + 1, i => by
    have ih := placesF_any r w p n (i + 1)
    unfold placesF
    by_cases hp : p = (i : Int)
    · subst hp
      have h1 : ¬ ((i + 1 : Nat) : Int) ≤ (i : Int) := by omega
      by_cases ha : isAt r w i = true
      · rw [if_pos ha]; simp [ha]; omega
      · rw [if_neg ha, ih]; simp [ha]
    · have h2 : decide ((i : Int) ≤ p) = decide (((i + 1 : Nat) : Int) ≤ p) := by
        by_cases h : (i : Int) ≤ p
        · have : ((i + 1 : Nat) : Int) ≤ p := by omega
          simp only [h, this]
        · have : ¬ ((i + 1 : Nat) : Int) ≤ p := by omega
          simp only [h, this]
      have h3 : decide (p < (i : Int) + (n + 1 : Nat)) = decide (p < ((i + 1 : Nat) : Int) + n) := by
        congr 1; simp only [eq_iff_iff]; omega
      rw [h2, h3]
      split
      · rw [List.any_cons, ih]; simp [hp]
      · exact ih
theorem long_cases (r : Rule) : long r = 0 ∨ long r = 1 := by unfold long; split <;> simp
theorem placesM_any (r : Rule) (w : List Int) (p : Int) : (placesM r w).any (fun x => decide (p = x)) = placeB r w p := by
  unfold placesM placeB
  rw [placesF_any]
  have hl := long_cases r
  by_cases h : (0 : Int) ≤ p
  · have e : decide (p < ((0 : Nat) : Int) + (w.length + 1 - (long r).toNat : Nat)) = decide (p + long r ≤ w.length) := by
      congr 1; simp only [eq_iff_iff]; omega
    rw [e]; simp
  · have : ¬ ((0 : Nat) : Int) ≤ p := by omega
    simp [h, this]
theorem placesF_len (r : Rule) (w : List Int) : ∀ (n i : Nat), (placesF r w i n).length ≤ n
  | 0, i => by simp [placesF]
  | n + 1, i => by
    have := placesF_len r w n (i + 1)
    unfold placesF
    split
    · simp; omega
    · omega
theorem placesM_len (r : Rule) (w : List Int) : (placesM r w).length ≤ w.length + 1 := by
  have := placesF_len r w (w.length + 1 - (long r).toNat) 0
  unfold placesM; omega
theorem ruleErr_to {r : Rule} (h : ruleErr r = 0) : r.to.length ≤ 2 := by
  unfold ruleErr at h
  by_cases h0 : (!isNeighbor r.frm) = true
  · rw [if_pos h0] at h; cases h
  · rw [if_neg h0] at h
    by_cases h1 : 2 < r.to.length
    · rw [if_pos h1] at h; cases h
    · omega
theorem Apply_c (r : Rule) (w : List Int) (p : Int) (h : r.small) (hw : w.length ≤ 1000) : CallP Try.prog 70 [ruleV r, ints w, iv p] (.tup [ints (applyM r w p).1, iv (applyM r w p).2]) := by
  refine C70 (by simp) ?_
  have hbig : (placesM r w).length ≤ big := by have := placesM_len r w; simp only [big]; omega
  simp [A70]
  try simp 
  repeat' (first
    | (refine CallX.pure (worded_c r w h hw) (by simp) (by simp) ?_; try simp )
    | (refine CallK.intro (worded_c r w h hw) (by simp) (by simp) ?_; try simp )
    | (refine CallG.intro (fun _ => worded_c r w h hw) (by simp) (by simp) ?_; try simp )
    | ((with_reducible refine PreK.intro ?_ ?_); (next => (first | omega | (intros; first | omega | (refine ⟨by omega, ?_⟩; repeat (first | assumption | constructor)) | assumption))); intro _; try simp )
    | fail)
  refine CondK.intro (fun h1 => ?_) (fun h1 => ?_)
  · simp at h1
    simp [applyM, h1]
  · simp at h1
    obtain ⟨h2, h3⟩ := wordedErr_zero h1
    obtain ⟨h4, h5⟩ := wordErr_zero h3
    try simp 
    repeat' (first
      | (refine CallX.pure (places_c r w h hw h5) (by simp) (by simp) ?_; try simp )
      | (refine CallK.intro (places_c r w h hw h5) (by simp) (by simp) ?_; try simp )
      | (refine CallG.intro (fun _ => places_c r w h hw h5) (by simp) (by simp) ?_; try simp )
      | (refine CallX.pure (contains_c (placesM r w) p hbig) (by simp) (by simp) ?_; try simp )
      | (refine CallK.intro (contains_c (placesM r w) p hbig) (by simp) (by simp) ?_; try simp )
      | (refine CallG.intro (fun _ => contains_c (placesM r w) p hbig) (by simp) (by simp) ?_; try simp )
      | ((with_reducible refine PreK.intro ?_ ?_); (next => (first | omega | (intros; first | omega | (refine ⟨by omega, ?_⟩; repeat (first | assumption | constructor)) | assumption))); intro _; try simp )
      | fail)
    rw [placesM_any]
    refine CondK.intro (fun h6 => ?_) (fun h6 => ?_)
    · simp at h6
      simp [applyM, h1, h6]
    · simp at h6
      have h6' := h6
      simp only [placeB, Bool.and_eq_true, decide_eq_true_eq] at h6'
      have hl := long_cases r
      obtain ⟨n, rfl⟩ := Int.eq_ofNat_of_zero_le h6'.1
      have ht := ruleErr_to h2
      have e1 : n + (long r).toNat ≤ w.length := by omega
      have e2 := put_c r w n e1 (by omega) (by omega)
      try simp 
      repeat' (first
        | (refine CallX.pure (e2) (by simp) (by simp) ?_; try simp )
        | (refine CallK.intro (e2) (by simp) (by simp) ?_; try simp )
        | (refine CallG.intro (fun _ => e2) (by simp) (by simp) ?_; try simp )
        | (refine CallX.pure (short_c (putW r w n)) (by simp) (by simp) ?_; try simp )
        | (refine CallK.intro (short_c (putW r w n)) (by simp) (by simp) ?_; try simp )
        | (refine CallG.intro (fun _ => short_c (putW r w n)) (by simp) (by simp) ?_; try simp )
        | ((with_reducible refine PreK.intro ?_ ?_); (next => (first | omega | (intros; first | omega | (refine ⟨by omega, ?_⟩; repeat (first | assumption | constructor)) | assumption))); intro _; try simp )
        | fail)
      by_cases h7 : 8 < (putW r w n).length
      · simp [applyM, h1, h6, h7, shortErr]
      · simp [applyM, h1, h6, h7, shortErr]
end Go.Proofs.Ytaooenmkofjafaa
end

section
/- Functions of the cut as the value layer reads them. (written by gen.py) -/
set_option maxRecDepth 20000
namespace Go.Proofs.Ytaooenmkofjafaa
open Go.Abs Go

/-- vyakarana vyakaranaref02.ValidateWord -/
def A138 : ACode :=
  (.seq (.reg [] [⟨some 2, (.assign (.const (.int .i64 0))), 29, none⟩])
    (.seq (.seq (.reg [] [⟨some 3, (.move (.tmp 0)), 23, none⟩,
      ⟨some 4, (.call ⟨(.builtin .len), #[(.tmp 3)], #[23]⟩), 3, none⟩,
      ⟨some 5, (.binOp .gtr 3 (.tmp 4) (.const (.int .i64 8)) 3), 4, none⟩])
    (.cond (.tmp 5)
    (.seq (.reg [] [⟨some 2, (.assign (.const (.int .i64 3))), 29, none⟩])
    .ret)
    .skip))
    (.seq (.seq (.reg [] [⟨some 6, (.move (.tmp 0)), 23, none⟩,
      ⟨some 7, (.call ⟨(.value (.func 195)), #[(.tmp 6)], #[23]⟩), 4, none⟩,
      ⟨some 8, (.unOp .not 4 (.tmp 7)), 4, none⟩])
    (.cond (.tmp 8)
    (.seq (.reg [] [⟨some 2, (.assign (.const (.int .i64 1))), 29, none⟩])
    .ret)
    .skip))
    (.seq (.reg [] [⟨some 2, (.assign (.const (.int .i64 0))), 29, none⟩])
    .ret))))
theorem C138 {args : List AV} {r : AV} (hn : args.length ≤ 9) (h : vc Try.prog T [] A138 (Fin T [(.tmp 2)] r) ⟨envOf 0 args, []⟩) : CallP Try.prog 138 args r :=
  callP_of tok mixed Try.func138 (by kernel_rfl) (by kernel_rfl) (by kernel_rfl : Try.f138.ntmps = 9) (by kernel_rfl : Try.f138.body.bind (strip 9 (fun _ => [])) = some A138) hn h
theorem CO138 {args : List AV} {sz : Nat} {els : List AV} (hn : args.length ≤ 9) (h : vc Try.prog T [] A138 (FinO [(.tmp 2)] sz els) ⟨envOf 0 args, []⟩) : CallO Try.prog 138 args sz els :=
  callO_of tok mixed Try.func138 (by kernel_rfl) (by kernel_rfl) (by kernel_rfl : Try.f138.ntmps = 9) (by kernel_rfl : Try.f138.body.bind (strip 9 (fun _ => [])) = some A138) hn h
theorem CL138 {pre suf : List AV} {sz : Nat} {els els' : List AV} {r : LRet} (hn : (pre ++ .sl lid 0 0 els.length :: suf).length ≤ 9) (h : vc Try.prog T [] A138 (FinL T [(.tmp 2)] sz r els') ⟨envOf 0 (pre ++ .sl lid 0 0 els.length :: suf), [(lid, some ⟨sz, els, 0, false⟩)]⟩) : CallL Try.prog 138 pre sz els suf r els' :=
  callL_of tok mixed Try.func138 (by kernel_rfl) (by kernel_rfl) (by kernel_rfl : Try.f138.ntmps = 9) (by kernel_rfl : Try.f138.body.bind (strip 9 (fun _ => [])) = some A138) hn h

/-- vyakarana vyakaranaref03.worded -/
def A162 : ACode :=
  (.seq (.reg [] [⟨some 6, (.assign (.const (.int .i64 0))), 29, none⟩])
    (.seq (.seq (.reg [] [⟨some 9, (.move (.tmp 0)), 22, none⟩,
      ⟨some 10, (.call ⟨(.value (.func 84)), #[(.tmp 9)], #[22]⟩), 29, none⟩,
      ⟨some 7, (.assign (.tmp 10)), 29, none⟩])
    (.seq (.reg [] [⟨some 11, (.move (.tmp 7)), 29, none⟩,
      ⟨some 12, (.binOp .neq 29 (.tmp 11) (.const (.int .i64 0)) 29), 4, none⟩])
    (.cond (.tmp 12)
    (.seq (.reg [] [⟨some 13, (.move (.tmp 7)), 29, none⟩,
      ⟨some 6, (.assign (.tmp 13)), 29, none⟩])
    .ret)
    .skip)))
    (.seq (.seq (.reg [] [⟨some 14, (.move (.tmp 1)), 23, none⟩,
      ⟨some 15, (.call ⟨(.value (.func 138)), #[(.tmp 14)], #[23]⟩), 29, none⟩,
      ⟨some 8, (.assign (.tmp 15)), 29, none⟩])
    (.seq (.reg [] [⟨some 16, (.move (.tmp 8)), 29, none⟩,
      ⟨some 17, (.binOp .neq 29 (.tmp 16) (.const (.int .i64 0)) 29), 4, none⟩])
    (.cond (.tmp 17)
    (.seq (.reg [] [⟨some 18, (.move (.tmp 8)), 29, none⟩,
      ⟨some 6, (.assign (.tmp 18)), 29, none⟩])
    .ret)
    .skip)))
    (.seq (.reg [] [⟨some 19, (.move (.tmp 2)), 23, none⟩,
      ⟨some 20, (.call ⟨(.value (.func 138)), #[(.tmp 19)], #[23]⟩), 29, none⟩,
      ⟨some 6, (.assign (.tmp 20)), 29, none⟩])
    .ret))))
theorem C162 {args : List AV} {r : AV} (hn : args.length ≤ 21) (h : vc Try.prog T [] A162 (Fin T [(.tmp 6)] r) ⟨envOf 0 args, []⟩) : CallP Try.prog 162 args r :=
  callP_of tok mixed Try.func162 (by kernel_rfl) (by kernel_rfl) (by kernel_rfl : Try.f162.ntmps = 21) (by kernel_rfl : Try.f162.body.bind (strip 21 (fun _ => [])) = some A162) hn h
theorem CO162 {args : List AV} {sz : Nat} {els : List AV} (hn : args.length ≤ 21) (h : vc Try.prog T [] A162 (FinO [(.tmp 6)] sz els) ⟨envOf 0 args, []⟩) : CallO Try.prog 162 args sz els :=
  callO_of tok mixed Try.func162 (by kernel_rfl) (by kernel_rfl) (by kernel_rfl : Try.f162.ntmps = 21) (by kernel_rfl : Try.f162.body.bind (strip 21 (fun _ => [])) = some A162) hn h
theorem CL162 {pre suf : List AV} {sz : Nat} {els els' : List AV} {r : LRet} (hn : (pre ++ .sl lid 0 0 els.length :: suf).length ≤ 21) (h : vc Try.prog T [] A162 (FinL T [(.tmp 6)] sz r els') ⟨envOf 0 (pre ++ .sl lid 0 0 els.length :: suf), [(lid, some ⟨sz, els, 0, false⟩)]⟩) : CallL Try.prog 162 pre sz els suf r els' :=
  callL_of tok mixed Try.func162 (by kernel_rfl) (by kernel_rfl) (by kernel_rfl : Try.f162.ntmps = 21) (by kernel_rfl : Try.f162.body.bind (strip 21 (fun _ => [])) = some A162) hn h

/-- vyakarana vyakaranaref03.steps -/
def A164 : ACode :=
  (.seq (.reg [] [⟨some 4, (.assign (.const (.slice none 0 0))), 88, none⟩,
      ⟨some 5, (.assign (.const (.slice none 0 0))), 62, none⟩])
    (.seq (.reg [] [⟨some 6, (.assign (.const (.slice none 0 0))), 88, none⟩])
    (.seq (.reg [] [⟨some 7, (.assign (.const (.slice none 0 0))), 62, none⟩])
    (.seq (.seq (.reg [] [⟨some 8, (.assign (.const (.int .i64 0))), 3, none⟩])
    (.block 0 (.loop (.seq (.seq (.reg [] [⟨some 12, (.move (.tmp 8)), 3, none⟩,
      ⟨some 13, (.move (.tmp 0)), 22, none⟩,
      ⟨some 14, (.call ⟨(.builtin .len), #[(.tmp 13)], #[22]⟩), 3, none⟩,
      ⟨some 15, (.binOp .lss 3 (.tmp 12) (.tmp 14) 3), 4, none⟩])
    (.cond (.tmp 15)
    .skip
    (.exit 0)))
    (.seq (.block 1 (.seq (.reg [] [⟨some 9, (.assign (.const (.int .i64 0))), 3, none⟩])
    (.block 2 (.loop (.seq (.seq (.reg [] [⟨some 18, (.move (.tmp 9)), 3, none⟩,
      ⟨some 19, (.move (.tmp 1)), 23, none⟩,
      ⟨some 20, (.call ⟨(.builtin .len), #[(.tmp 19)], #[23]⟩), 3, none⟩,
      ⟨some 21, (.binOp .leq 3 (.tmp 18) (.tmp 20) 3), 4, none⟩])
    (.cond (.tmp 21)
    .skip
    (.exit 2)))
    (.seq (.block 3 (.seq (.reg [] [⟨some 25, (.move (.tmp 0)), 22, none⟩,
      ⟨some 26, (.move (.tmp 8)), 3, none⟩,
      ⟨some 27, (.indexAddr 22 (.tmp 25) (.tmp 26)), 0, none⟩,
      ⟨some 28, (.load 72 (.tmp 27)), 72, none⟩,
      ⟨some 29, (.move (.tmp 1)), 23, none⟩,
      ⟨some 30, (.move (.tmp 9)), 3, none⟩,
      ⟨some 31, (.call ⟨(.value (.func 177)), #[(.tmp 28), (.tmp 29), (.tmp 30)], #[72, 23, 3]⟩), 32, none⟩,
      ⟨some 24, (.move (.tmp 31)), 32, none⟩,
      ⟨some 32, (.extract (.tmp 24) 0), 23, none⟩,
      ⟨some 33, (.extract (.tmp 24) 1), 29, none⟩,
      ⟨some 10, (.assign (.tmp 32)), 23, none⟩,
      ⟨some 11, (.assign (.tmp 33)), 29, none⟩])
    (.seq (.reg [] [⟨some 34, (.move (.tmp 11)), 29, none⟩,
      ⟨some 35, (.binOp .eql 29 (.tmp 34) (.const (.int .i64 0)) 29), 4, none⟩])
    (.cond (.tmp 35)
    (.seq (.reg [] [⟨some 36, (.move (.tmp 6)), 88, none⟩,
      ⟨some 37, (.move (.tmp 8)), 3, none⟩,
      ⟨some 38, (.move (.tmp 9)), 3, none⟩,
      ⟨some 39, (.build 46 #[(0, (.tmp 37)), (1, (.tmp 38))]), 46, none⟩,
      ⟨some 40, (.buildSlice 88 1 #[(0, (.tmp 39))]), 88, none⟩,
      ⟨some 41, (.call ⟨(.builtin .append), #[(.tmp 36), (.tmp 40)], #[88, 88]⟩), 88, none⟩,
      ⟨some 6, (.assign (.tmp 41)), 88, none⟩])
    (.reg [] [⟨some 42, (.move (.tmp 7)), 62, none⟩,
      ⟨some 43, (.move (.tmp 10)), 23, none⟩,
      ⟨some 44, (.buildSlice 62 1 #[(0, (.tmp 43))]), 62, none⟩,
      ⟨some 45, (.call ⟨(.builtin .append), #[(.tmp 42), (.tmp 44)], #[62, 62]⟩), 62, none⟩,
      ⟨some 7, (.assign (.tmp 45)), 62, none⟩]))
    .skip))))
    (.reg [] [⟨some 22, (.move (.tmp 9)), 3, none⟩,
      ⟨some 23, (.binOp .add 3 (.tmp 22) (.const (.int .i64 1)) 3), 3, none⟩,
      ⟨some 9, (.assign (.tmp 23)), 3, none⟩])))))))
    (.reg [] [⟨some 16, (.move (.tmp 8)), 3, none⟩,
      ⟨some 17, (.binOp .add 3 (.tmp 16) (.const (.int .i64 1)) 3), 3, none⟩,
      ⟨some 8, (.assign (.tmp 17)), 3, none⟩]))))))
    (.seq (.reg [] [⟨some 46, (.move (.tmp 6)), 88, none⟩,
      ⟨some 47, (.move (.tmp 7)), 62, none⟩,
      ⟨some 4, (.assign (.tmp 46)), 88, none⟩,
      ⟨some 5, (.assign (.tmp 47)), 62, none⟩])
    .ret)))))
theorem C164 {args : List AV} {r : AV} (hn : args.length ≤ 48) (h : vc Try.prog T [] A164 (Fin T [(.tmp 4), (.tmp 5)] r) ⟨envOf 0 args, []⟩) : CallP Try.prog 164 args r :=
  callP_of tok mixed Try.func164 (by kernel_rfl) (by kernel_rfl) (by kernel_rfl : Try.f164.ntmps = 48) (by kernel_rfl : Try.f164.body.bind (strip 48 (fun _ => [])) = some A164) hn h
theorem CO164 {args : List AV} {sz : Nat} {els : List AV} (hn : args.length ≤ 48) (h : vc Try.prog T [] A164 (FinO [(.tmp 4), (.tmp 5)] sz els) ⟨envOf 0 args, []⟩) : CallO Try.prog 164 args sz els :=
  callO_of tok mixed Try.func164 (by kernel_rfl) (by kernel_rfl) (by kernel_rfl : Try.f164.ntmps = 48) (by kernel_rfl : Try.f164.body.bind (strip 48 (fun _ => [])) = some A164) hn h
theorem CL164 {pre suf : List AV} {sz : Nat} {els els' : List AV} {r : LRet} (hn : (pre ++ .sl lid 0 0 els.length :: suf).length ≤ 48) (h : vc Try.prog T [] A164 (FinL T [(.tmp 4), (.tmp 5)] sz r els') ⟨envOf 0 (pre ++ .sl lid 0 0 els.length :: suf), [(lid, some ⟨sz, els, 0, false⟩)]⟩) : CallL Try.prog 164 pre sz els suf r els' :=
  callL_of tok mixed Try.func164 (by kernel_rfl) (by kernel_rfl) (by kernel_rfl : Try.f164.ntmps = 48) (by kernel_rfl : Try.f164.body.bind (strip 48 (fun _ => [])) = some A164) hn h

/-- vyakarana vyakaranaref02.Validate -/
def A165 : ACode :=
  (.seq (.reg [] [⟨some 1, (.box 72 (.tmp 0)), 0, none⟩,
      ⟨some 2, (.assign (.const (.int .i64 0))), 29, none⟩])
    (.seq (.seq (.reg [] [⟨some 3, (.fieldAddr 72 (.tmp 1) 0), 0, none⟩,
      ⟨some 4, (.load 3 (.tmp 3)), 3, none⟩,
      ⟨some 5, (.call ⟨(.value (.func 213)), #[(.tmp 4), (.const (.int .i64 (-1))), (.const (.int .i64 5))], #[3, 3, 3]⟩), 4, none⟩,
      ⟨some 6, (.unOp .not 4 (.tmp 5)), 4, none⟩])
    (.cond (.tmp 6)
    (.seq (.reg [] [⟨some 2, (.assign (.const (.int .i64 1))), 29, none⟩])
    .ret)
    .skip))
    (.seq (.seq (.reg [] [⟨some 7, (.fieldAddr 72 (.tmp 1) 1), 0, none⟩,
      ⟨some 8, (.load 23 (.tmp 7)), 23, none⟩,
      ⟨some 9, (.call ⟨(.builtin .len), #[(.tmp 8)], #[23]⟩), 3, none⟩,
      ⟨some 10, (.binOp .gtr 3 (.tmp 9) (.const (.int .i64 2)) 3), 4, none⟩])
    (.cond (.tmp 10)
    (.seq (.reg [] [⟨some 2, (.assign (.const (.int .i64 3))), 29, none⟩])
    .ret)
    .skip))
    (.seq (.seq (.reg [] [⟨some 11, (.fieldAddr 72 (.tmp 1) 1), 0, none⟩,
      ⟨some 12, (.load 23 (.tmp 11)), 23, none⟩,
      ⟨some 13, (.call ⟨(.value (.func 195)), #[(.tmp 12)], #[23]⟩), 4, none⟩,
      ⟨some 14, (.unOp .not 4 (.tmp 13)), 4, none⟩,
      ⟨some 15, (.move (.tmp 14)), 4, none⟩,
      ⟨some 16, (.fieldAddr 72 (.tmp 1) 2), 0, some (15, false)⟩,
      ⟨some 17, (.load 23 (.tmp 16)), 23, some (15, false)⟩,
      ⟨some 18, (.call ⟨(.value (.func 214)), #[(.tmp 17), (.const (.int .i64 (-1))), (.const (.int .i64 5))], #[23, 3, 3]⟩), 4, some (15, false)⟩,
      ⟨some 19, (.unOp .not 4 (.tmp 18)), 4, some (15, false)⟩,
      ⟨some 20, (.pick (.tmp 15) (.const (.bool true)) (.tmp 19)), 4, none⟩,
      ⟨some 21, (.move (.tmp 20)), 4, none⟩,
      ⟨some 22, (.fieldAddr 72 (.tmp 1) 3), 0, some (21, false)⟩,
      ⟨some 23, (.load 23 (.tmp 22)), 23, some (21, false)⟩,
      ⟨some 24, (.call ⟨(.value (.func 214)), #[(.tmp 23), (.const (.int .i64 (-1))), (.const (.int .i64 5))], #[23, 3, 3]⟩), 4, some (21, false)⟩,
      ⟨some 25, (.unOp .not 4 (.tmp 24)), 4, some (21, false)⟩,
      ⟨some 26, (.pick (.tmp 21) (.const (.bool true)) (.tmp 25)), 4, none⟩])
    (.cond (.tmp 26)
    (.seq (.reg [] [⟨some 2, (.assign (.const (.int .i64 1))), 29, none⟩])
    .ret)
    .skip))
    (.seq (.seq (.draw [] [⟨some 27, (.fieldAddr 72 (.tmp 1) 0), 0, none⟩,
      ⟨some 28, (.load 3 (.tmp 27)), 3, none⟩,
      ⟨some 29, (.binOp .lss 3 (.tmp 28) (.const (.int .i64 0)) 3), 4, none⟩,
      ⟨some 30, (.move (.tmp 29)), 4, none⟩,
      ⟨some 31, (.fieldAddr 72 (.tmp 1) 1), 0, some (30, true)⟩,
      ⟨some 32, (.load 23 (.tmp 31)), 23, some (30, true)⟩,
      ⟨some 33, (.call ⟨(.builtin .len), #[(.tmp 32)], #[23]⟩), 3, some (30, true)⟩,
      ⟨some 34, (.binOp .eql 3 (.tmp 33) (.const (.int .i64 0)) 3), 4, some (30, true)⟩,
      ⟨some 35, (.pick (.tmp 30) (.tmp 34) (.const (.bool false))), 4, none⟩,
      ⟨some 36, (.move (.tmp 35)), 4, none⟩,
      ⟨some 37, (.fieldAddr 72 (.tmp 1) 1), 0, some (36, false)⟩,
      ⟨some 38, (.load 23 (.tmp 37)), 23, some (36, false)⟩,
      ⟨some 39, (.call ⟨(.builtin .len), #[(.tmp 38)], #[23]⟩), 3, some (36, false)⟩,
      ⟨some 40, (.binOp .eql 3 (.tmp 39) (.const (.int .i64 1)) 3), 4, some (36, false)⟩,
      ⟨some 41, (.move (.tmp 40)), 4, some (36, false)⟩,
      ⟨some 42, (.fieldAddr 72 (.tmp 1) 1), 0, some (41, true)⟩,
      ⟨some 43, (.load 23 (.tmp 42)), 23, some (41, true)⟩,
      ⟨some 44, (.indexAddr 23 (.tmp 43) (.const (.int .i64 0))), 0, some (41, true)⟩,
      ⟨some 45, (.load 3 (.tmp 44)), 3, some (41, true)⟩,
      ⟨some 46, (.fieldAddr 72 (.tmp 1) 0), 0, some (41, true)⟩,
      ⟨some 47, (.load 3 (.tmp 46)), 3, some (41, true)⟩,
      ⟨some 48, (.binOp .eql 3 (.tmp 45) (.tmp 47) 3), 4, some (41, true)⟩,
      ⟨some 49, (.pick (.tmp 41) (.tmp 48) (.const (.bool false))), 4, some (36, false)⟩,
      ⟨some 50, (.pick (.tmp 36) (.const (.bool true)) (.tmp 49)), 4, none⟩] [(15, 19), (16, 19), (17, 19), (18, 19), (15, 20), (16, 20), (17, 20), (18, 20)])
    (.cond (.tmp 50)
    (.seq (.reg [] [⟨some 2, (.assign (.const (.int .i64 6))), 29, none⟩])
    .ret)
    .skip))
    (.seq (.reg [] [⟨some 2, (.assign (.const (.int .i64 0))), 29, none⟩])
    .ret))))))
theorem C165 {args : List AV} {r : AV} (hn : args.length ≤ 51) (h : vc Try.prog T [] A165 (Fin T [(.tmp 2)] r) ⟨envOf 0 args, []⟩) : CallP Try.prog 165 args r :=
  callP_of tok mixed Try.func165 (by kernel_rfl) (by kernel_rfl) (by kernel_rfl : Try.f165.ntmps = 51) (by kernel_rfl : Try.f165.body.bind (strip 51 (fun _ => [])) = some A165) hn h
theorem CO165 {args : List AV} {sz : Nat} {els : List AV} (hn : args.length ≤ 51) (h : vc Try.prog T [] A165 (FinO [(.tmp 2)] sz els) ⟨envOf 0 args, []⟩) : CallO Try.prog 165 args sz els :=
  callO_of tok mixed Try.func165 (by kernel_rfl) (by kernel_rfl) (by kernel_rfl : Try.f165.ntmps = 51) (by kernel_rfl : Try.f165.body.bind (strip 51 (fun _ => [])) = some A165) hn h
theorem CL165 {pre suf : List AV} {sz : Nat} {els els' : List AV} {r : LRet} (hn : (pre ++ .sl lid 0 0 els.length :: suf).length ≤ 51) (h : vc Try.prog T [] A165 (FinL T [(.tmp 2)] sz r els') ⟨envOf 0 (pre ++ .sl lid 0 0 els.length :: suf), [(lid, some ⟨sz, els, 0, false⟩)]⟩) : CallL Try.prog 165 pre sz els suf r els' :=
  callL_of tok mixed Try.func165 (by kernel_rfl) (by kernel_rfl) (by kernel_rfl : Try.f165.ntmps = 51) (by kernel_rfl : Try.f165.body.bind (strip 51 (fun _ => [])) = some A165) hn h

/-- vyakarana vyakaranaref02.Apply -/
def A177 : ACode :=
  (.seq (.reg [] [⟨some 3, (.box 72 (.tmp 0)), 0, none⟩,
      ⟨some 6, (.assign (.const (.slice none 0 0))), 23, none⟩,
      ⟨some 7, (.assign (.const (.int .i64 0))), 29, none⟩])
    (.seq (.seq (.reg [] [⟨some 9, (.load 72 (.tmp 3)), 72, none⟩,
      ⟨some 10, (.move (.tmp 1)), 23, none⟩,
      ⟨some 11, (.call ⟨(.value (.func 217)), #[(.tmp 9), (.tmp 10)], #[72, 23]⟩), 29, none⟩,
      ⟨some 8, (.assign (.tmp 11)), 29, none⟩])
    (.seq (.reg [] [⟨some 12, (.move (.tmp 8)), 29, none⟩,
      ⟨some 13, (.binOp .neq 29 (.tmp 12) (.const (.int .i64 0)) 29), 4, none⟩])
    (.cond (.tmp 13)
    (.seq (.reg [] [⟨some 14, (.move (.tmp 8)), 29, none⟩,
      ⟨some 6, (.assign (.const (.slice none 0 0))), 23, none⟩,
      ⟨some 7, (.assign (.tmp 14)), 29, none⟩])
    .ret)
    .skip)))
    (.seq (.seq (.reg [] [⟨some 15, (.load 72 (.tmp 3)), 72, none⟩,
      ⟨some 16, (.move (.tmp 1)), 23, none⟩,
      ⟨some 17, (.move (.tmp 2)), 3, none⟩,
      ⟨some 18, (.call ⟨(.value (.func 218)), #[(.tmp 15), (.tmp 16), (.tmp 17)], #[72, 23, 3]⟩), 4, none⟩,
      ⟨some 19, (.unOp .not 4 (.tmp 18)), 4, none⟩])
    (.cond (.tmp 19)
    (.seq (.reg [] [⟨some 6, (.assign (.const (.slice none 0 0))), 23, none⟩,
      ⟨some 7, (.assign (.const (.int .i64 6))), 29, none⟩])
    .ret)
    .skip))
    (.seq (.reg [] [⟨some 20, (.load 72 (.tmp 3)), 72, none⟩,
      ⟨some 21, (.move (.tmp 1)), 23, none⟩,
      ⟨some 22, (.move (.tmp 2)), 3, none⟩,
      ⟨some 23, (.call ⟨(.value (.func 220)), #[(.tmp 20), (.tmp 21), (.tmp 22)], #[72, 23, 3]⟩), 23, none⟩,
      ⟨some 24, (.call ⟨(.value (.func 219)), #[(.tmp 23)], #[23]⟩), 32, none⟩,
      ⟨some 25, (.extract (.tmp 24) 0), 23, none⟩,
      ⟨some 26, (.extract (.tmp 24) 1), 29, none⟩,
      ⟨some 6, (.assign (.tmp 25)), 23, none⟩,
      ⟨some 7, (.assign (.tmp 26)), 29, none⟩])
    .ret))))
theorem C177 {args : List AV} {r : AV} (hn : args.length ≤ 27) (h : vc Try.prog T [] A177 (Fin T [(.tmp 6), (.tmp 7)] r) ⟨envOf 0 args, []⟩) : CallP Try.prog 177 args r :=
  callP_of tok mixed Try.func177 (by kernel_rfl) (by kernel_rfl) (by kernel_rfl : Try.f177.ntmps = 27) (by kernel_rfl : Try.f177.body.bind (strip 27 (fun _ => [])) = some A177) hn h
theorem CO177 {args : List AV} {sz : Nat} {els : List AV} (hn : args.length ≤ 27) (h : vc Try.prog T [] A177 (FinO [(.tmp 6), (.tmp 7)] sz els) ⟨envOf 0 args, []⟩) : CallO Try.prog 177 args sz els :=
  callO_of tok mixed Try.func177 (by kernel_rfl) (by kernel_rfl) (by kernel_rfl : Try.f177.ntmps = 27) (by kernel_rfl : Try.f177.body.bind (strip 27 (fun _ => [])) = some A177) hn h
theorem CL177 {pre suf : List AV} {sz : Nat} {els els' : List AV} {r : LRet} (hn : (pre ++ .sl lid 0 0 els.length :: suf).length ≤ 27) (h : vc Try.prog T [] A177 (FinL T [(.tmp 6), (.tmp 7)] sz r els') ⟨envOf 0 (pre ++ .sl lid 0 0 els.length :: suf), [(lid, some ⟨sz, els, 0, false⟩)]⟩) : CallL Try.prog 177 pre sz els suf r els' :=
  callL_of tok mixed Try.func177 (by kernel_rfl) (by kernel_rfl) (by kernel_rfl : Try.f177.ntmps = 27) (by kernel_rfl : Try.f177.body.bind (strip 27 (fun _ => [])) = some A177) hn h

/-- vyakarana vyakaranaref04.after -/
def A183 : ACode :=
  (.seq (.reg [] [⟨some 5, (.box 46 (.tmp 2)), 0, none⟩,
      ⟨some 6, (.assign (.const (.slice none 0 0))), 23, none⟩])
    (.seq (.draw [] [⟨some 10, (.move (.tmp 0)), 22, none⟩,
      ⟨some 11, (.fieldAddr 46 (.tmp 5) 0), 0, none⟩,
      ⟨some 12, (.load 3 (.tmp 11)), 3, none⟩,
      ⟨some 13, (.indexAddr 22 (.tmp 10) (.tmp 12)), 0, none⟩,
      ⟨some 14, (.load 72 (.tmp 13)), 72, none⟩,
      ⟨some 15, (.move (.tmp 1)), 23, none⟩,
      ⟨some 16, (.fieldAddr 46 (.tmp 5) 1), 0, none⟩,
      ⟨some 17, (.load 3 (.tmp 16)), 3, none⟩,
      ⟨some 18, (.call ⟨(.value (.func 177)), #[(.tmp 14), (.tmp 15), (.tmp 17)], #[72, 23, 3]⟩), 32, none⟩,
      ⟨some 9, (.move (.tmp 18)), 32, none⟩,
      ⟨some 19, (.extract (.tmp 9) 0), 23, none⟩,
      ⟨some 20, (.extract (.tmp 9) 1), 29, none⟩,
      ⟨some 7, (.assign (.tmp 19)), 23, none⟩,
      ⟨some 8, (.assign (.tmp 20)), 29, none⟩] [(0, 1), (0, 2), (0, 5), (1, 5), (2, 5), (3, 5), (4, 5), (0, 6), (1, 6), (2, 6), (3, 6), (4, 6), (5, 6), (0, 7), (1, 7), (2, 7), (3, 7), (4, 7), (5, 7), (10, 11), (11, 12)])
    (.seq (.reg [] [⟨some 21, (.move (.tmp 7)), 23, none⟩,
      ⟨some 6, (.assign (.tmp 21)), 23, none⟩])
    .ret)))
theorem C183 {args : List AV} {r : AV} (hn : args.length ≤ 22) (h : vc Try.prog T [] A183 (Fin T [(.tmp 6)] r) ⟨envOf 0 args, []⟩) : CallP Try.prog 183 args r :=
  callP_of tok mixed Try.func183 (by kernel_rfl) (by kernel_rfl) (by kernel_rfl : Try.f183.ntmps = 22) (by kernel_rfl : Try.f183.body.bind (strip 22 (fun _ => [])) = some A183) hn h
theorem CO183 {args : List AV} {sz : Nat} {els : List AV} (hn : args.length ≤ 22) (h : vc Try.prog T [] A183 (FinO [(.tmp 6)] sz els) ⟨envOf 0 args, []⟩) : CallO Try.prog 183 args sz els :=
  callO_of tok mixed Try.func183 (by kernel_rfl) (by kernel_rfl) (by kernel_rfl : Try.f183.ntmps = 22) (by kernel_rfl : Try.f183.body.bind (strip 22 (fun _ => [])) = some A183) hn h
theorem CL183 {pre suf : List AV} {sz : Nat} {els els' : List AV} {r : LRet} (hn : (pre ++ .sl lid 0 0 els.length :: suf).length ≤ 22) (h : vc Try.prog T [] A183 (FinL T [(.tmp 6)] sz r els') ⟨envOf 0 (pre ++ .sl lid 0 0 els.length :: suf), [(lid, some ⟨sz, els, 0, false⟩)]⟩) : CallL Try.prog 183 pre sz els suf r els' :=
  callL_of tok mixed Try.func183 (by kernel_rfl) (by kernel_rfl) (by kernel_rfl : Try.f183.ntmps = 22) (by kernel_rfl : Try.f183.body.bind (strip 22 (fun _ => [])) = some A183) hn h

/-- slices.IndexFunc   vyakarana order.candidate vyakarana order.candidate  -/
def A184 : ACode :=
  (.seq (.reg [] [⟨some 4, (.assign (.const (.int .i64 0))), 3, none⟩])
    (.seq (.seq (.reg [] [⟨some 6, (.move (.tmp 0)), 117, none⟩,
      ⟨some 7, (.call ⟨(.builtin .len), #[(.tmp 6)], #[117]⟩), 3, none⟩,
      ⟨some 8, (.move (.const (.int .i64 0))), 3, none⟩])
    (.block 0 (.loop (.seq (.reg [] [⟨some 9, (.binOp .lss 3 (.tmp 8) (.tmp 7) 3), 0, none⟩])
    (.seq (.cond (.tmp 9)
    .skip
    (.exit 0))
    (.seq (.block 1 (.seq (.reg [] [⟨some 10, (.move (.tmp 8)), 3, none⟩,
      ⟨some 5, (.assign (.tmp 10)), 3, none⟩])
    (.seq (.reg [] [⟨some 11, (.move (.tmp 1)), 191, none⟩,
      ⟨some 12, (.move (.tmp 0)), 117, none⟩,
      ⟨some 13, (.move (.tmp 5)), 3, none⟩,
      ⟨some 14, (.indexAddr 117 (.tmp 12) (.tmp 13)), 0, none⟩,
      ⟨some 15, (.load 120 (.tmp 14)), 120, none⟩,
      ⟨some 16, (.call ⟨(.value (.tmp 11)), #[(.tmp 15)], #[120]⟩), 4, none⟩])
    (.cond (.tmp 16)
    (.seq (.reg [] [⟨some 17, (.move (.tmp 5)), 3, none⟩,
      ⟨some 4, (.assign (.tmp 17)), 3, none⟩])
    .ret)
    .skip))))
    (.reg [] [⟨some 18, (.binOp .add 3 (.tmp 8) (.const (.int .i64 1)) 3), 3, none⟩,
      ⟨some 8, (.move (.tmp 18)), 3, none⟩])))))))
    (.seq (.reg [] [⟨some 4, (.assign (.const (.int .i64 (-1)))), 3, none⟩])
    .ret)))
theorem C184 {args : List AV} {r : AV} (hn : args.length ≤ 19) (h : vc Try.prog T [] A184 (Fin T [(.tmp 4)] r) ⟨envOf 0 args, []⟩) : CallP Try.prog 184 args r :=
  callP_of tok mixed Try.func184 (by kernel_rfl) (by kernel_rfl) (by kernel_rfl : Try.f184.ntmps = 19) (by kernel_rfl : Try.f184.body.bind (strip 19 (fun _ => [])) = some A184) hn h
theorem CO184 {args : List AV} {sz : Nat} {els : List AV} (hn : args.length ≤ 19) (h : vc Try.prog T [] A184 (FinO [(.tmp 4)] sz els) ⟨envOf 0 args, []⟩) : CallO Try.prog 184 args sz els :=
  callO_of tok mixed Try.func184 (by kernel_rfl) (by kernel_rfl) (by kernel_rfl : Try.f184.ntmps = 19) (by kernel_rfl : Try.f184.body.bind (strip 19 (fun _ => [])) = some A184) hn h
theorem CL184 {pre suf : List AV} {sz : Nat} {els els' : List AV} {r : LRet} (hn : (pre ++ .sl lid 0 0 els.length :: suf).length ≤ 19) (h : vc Try.prog T [] A184 (FinL T [(.tmp 4)] sz r els') ⟨envOf 0 (pre ++ .sl lid 0 0 els.length :: suf), [(lid, some ⟨sz, els, 0, false⟩)]⟩) : CallL Try.prog 184 pre sz els suf r els' :=
  callL_of tok mixed Try.func184 (by kernel_rfl) (by kernel_rfl) (by kernel_rfl : Try.f184.ntmps = 19) (by kernel_rfl : Try.f184.body.bind (strip 19 (fun _ => [])) = some A184) hn h

/-- vyakarana order.choice 1 -/
def A185 : ACode :=
  (.seq (.reg [] [⟨some 2, (.box 120 (.tmp 0)), 0, none⟩,
      ⟨some 3, (.assign (.const (.bool false))), 4, none⟩])
    (.seq (.reg [] [⟨some 4, (.fieldAddr 120 (.tmp 2) 0), 0, none⟩,
      ⟨some 5, (.load 46 (.tmp 4)), 46, none⟩,
      ⟨some 6, (.fieldAddr 120 (.tmp 1) 0), 0, none⟩,
      ⟨some 7, (.load 46 (.tmp 6)), 46, none⟩,
      ⟨some 8, (.binOp .neq 46 (.tmp 5) (.tmp 7) 46), 4, none⟩,
      ⟨some 3, (.assign (.tmp 8)), 4, none⟩])
    .ret))
theorem C185 {args : List AV} {r : AV} (hn : args.length ≤ 9) (h : vc Try.prog T [] A185 (Fin T [(.tmp 3)] r) ⟨envOf 0 args, []⟩) : CallP Try.prog 185 args r :=
  callP_of tok mixed Try.func185 (by kernel_rfl) (by kernel_rfl) (by kernel_rfl : Try.f185.ntmps = 9) (by kernel_rfl : Try.f185.body.bind (strip 9 (fun _ => [])) = some A185) hn h
theorem CO185 {args : List AV} {sz : Nat} {els : List AV} (hn : args.length ≤ 9) (h : vc Try.prog T [] A185 (FinO [(.tmp 3)] sz els) ⟨envOf 0 args, []⟩) : CallO Try.prog 185 args sz els :=
  callO_of tok mixed Try.func185 (by kernel_rfl) (by kernel_rfl) (by kernel_rfl : Try.f185.ntmps = 9) (by kernel_rfl : Try.f185.body.bind (strip 9 (fun _ => [])) = some A185) hn h
theorem CL185 {pre suf : List AV} {sz : Nat} {els els' : List AV} {r : LRet} (hn : (pre ++ .sl lid 0 0 els.length :: suf).length ≤ 9) (h : vc Try.prog T [] A185 (FinL T [(.tmp 3)] sz r els') ⟨envOf 0 (pre ++ .sl lid 0 0 els.length :: suf), [(lid, some ⟨sz, els, 0, false⟩)]⟩) : CallL Try.prog 185 pre sz els suf r els' :=
  callL_of tok mixed Try.func185 (by kernel_rfl) (by kernel_rfl) (by kernel_rfl : Try.f185.ntmps = 9) (by kernel_rfl : Try.f185.body.bind (strip 9 (fun _ => [])) = some A185) hn h

/-- slices.ContainsFunc   vyakarana order.candidate vyakarana order.candidate  -/
def A186 : ACode :=
  (.seq (.reg [] [⟨some 4, (.assign (.const (.bool false))), 4, none⟩])
    (.seq (.reg [] [⟨some 5, (.move (.tmp 0)), 117, none⟩,
      ⟨some 6, (.move (.tmp 1)), 191, none⟩,
      ⟨some 7, (.call ⟨(.value (.func 184)), #[(.tmp 5), (.tmp 6)], #[117, 191]⟩), 3, none⟩,
      ⟨some 8, (.binOp .geq 3 (.tmp 7) (.const (.int .i64 0)) 3), 4, none⟩,
      ⟨some 4, (.assign (.tmp 8)), 4, none⟩])
    .ret))
theorem C186 {args : List AV} {r : AV} (hn : args.length ≤ 9) (h : vc Try.prog T [] A186 (Fin T [(.tmp 4)] r) ⟨envOf 0 args, []⟩) : CallP Try.prog 186 args r :=
  callP_of tok mixed Try.func186 (by kernel_rfl) (by kernel_rfl) (by kernel_rfl : Try.f186.ntmps = 9) (by kernel_rfl : Try.f186.body.bind (strip 9 (fun _ => [])) = some A186) hn h
theorem CO186 {args : List AV} {sz : Nat} {els : List AV} (hn : args.length ≤ 9) (h : vc Try.prog T [] A186 (FinO [(.tmp 4)] sz els) ⟨envOf 0 args, []⟩) : CallO Try.prog 186 args sz els :=
  callO_of tok mixed Try.func186 (by kernel_rfl) (by kernel_rfl) (by kernel_rfl : Try.f186.ntmps = 9) (by kernel_rfl : Try.f186.body.bind (strip 9 (fun _ => [])) = some A186) hn h
theorem CL186 {pre suf : List AV} {sz : Nat} {els els' : List AV} {r : LRet} (hn : (pre ++ .sl lid 0 0 els.length :: suf).length ≤ 9) (h : vc Try.prog T [] A186 (FinL T [(.tmp 4)] sz r els') ⟨envOf 0 (pre ++ .sl lid 0 0 els.length :: suf), [(lid, some ⟨sz, els, 0, false⟩)]⟩) : CallL Try.prog 186 pre sz els suf r els' :=
  callL_of tok mixed Try.func186 (by kernel_rfl) (by kernel_rfl) (by kernel_rfl : Try.f186.ntmps = 9) (by kernel_rfl : Try.f186.body.bind (strip 9 (fun _ => [])) = some A186) hn h

/-- vyakarana order.two 1 -/
def A187 : ACode :=
  (.seq (.reg [] [⟨some 2, (.box 120 (.tmp 0)), 0, none⟩,
      ⟨some 3, (.assign (.const (.bool false))), 4, none⟩])
    (.seq (.reg [] [⟨some 4, (.fieldAddr 120 (.tmp 2) 0), 0, none⟩,
      ⟨some 5, (.load 46 (.tmp 4)), 46, none⟩,
      ⟨some 6, (.load 46 (.tmp 1)), 46, none⟩,
      ⟨some 7, (.binOp .eql 46 (.tmp 5) (.tmp 6) 46), 4, none⟩,
      ⟨some 3, (.assign (.tmp 7)), 4, none⟩])
    .ret))
theorem C187 {args : List AV} {r : AV} (hn : args.length ≤ 8) (h : vc Try.prog T [] A187 (Fin T [(.tmp 3)] r) ⟨envOf 0 args, []⟩) : CallP Try.prog 187 args r :=
  callP_of tok mixed Try.func187 (by kernel_rfl) (by kernel_rfl) (by kernel_rfl : Try.f187.ntmps = 8) (by kernel_rfl : Try.f187.body.bind (strip 8 (fun _ => [])) = some A187) hn h
theorem CO187 {args : List AV} {sz : Nat} {els : List AV} (hn : args.length ≤ 8) (h : vc Try.prog T [] A187 (FinO [(.tmp 3)] sz els) ⟨envOf 0 args, []⟩) : CallO Try.prog 187 args sz els :=
  callO_of tok mixed Try.func187 (by kernel_rfl) (by kernel_rfl) (by kernel_rfl : Try.f187.ntmps = 8) (by kernel_rfl : Try.f187.body.bind (strip 8 (fun _ => [])) = some A187) hn h
theorem CL187 {pre suf : List AV} {sz : Nat} {els els' : List AV} {r : LRet} (hn : (pre ++ .sl lid 0 0 els.length :: suf).length ≤ 8) (h : vc Try.prog T [] A187 (FinL T [(.tmp 3)] sz r els') ⟨envOf 0 (pre ++ .sl lid 0 0 els.length :: suf), [(lid, some ⟨sz, els, 0, false⟩)]⟩) : CallL Try.prog 187 pre sz els suf r els' :=
  callL_of tok mixed Try.func187 (by kernel_rfl) (by kernel_rfl) (by kernel_rfl : Try.f187.ntmps = 8) (by kernel_rfl : Try.f187.body.bind (strip 8 (fun _ => [])) = some A187) hn h

/-- vyakarana order.reasons -/
def A188 : ACode :=
  (.seq (.reg [] [⟨some 0, (.alloc 195), 0, none⟩])
    (.seq (.reg [] [⟨some 1, (.build 194 #[(0, (.func 221))]), 194, none⟩,
      ⟨some 2, (.build 194 #[(0, (.func 223))]), 194, none⟩,
      ⟨some 3, (.build 194 #[(0, (.func 224))]), 194, none⟩,
      ⟨some 4, (.build 194 #[(0, (.func 225))]), 194, none⟩,
      ⟨some 5, (.build 195 #[(0, (.tmp 1)), (1, (.tmp 2)), (2, (.tmp 3)), (3, (.tmp 4))]), 195, none⟩,
      ⟨none, (.store 195 (.tmp 0) (.tmp 5)), 0, none⟩])
    .ret))
theorem C188 {args : List AV} {r : AV} (hn : args.length ≤ 6) (h : vc Try.prog T [] A188 (Fin T [(.cell 0 195)] r) ⟨envOf 0 args, []⟩) : CallP Try.prog 188 args r :=
  callP_of tok mixed Try.func188 (by kernel_rfl) (by kernel_rfl) (by kernel_rfl : Try.f188.ntmps = 6) (by kernel_rfl : Try.f188.body.bind (strip 6 (fun _ => [])) = some A188) hn h
theorem CO188 {args : List AV} {sz : Nat} {els : List AV} (hn : args.length ≤ 6) (h : vc Try.prog T [] A188 (FinO [(.cell 0 195)] sz els) ⟨envOf 0 args, []⟩) : CallO Try.prog 188 args sz els :=
  callO_of tok mixed Try.func188 (by kernel_rfl) (by kernel_rfl) (by kernel_rfl : Try.f188.ntmps = 6) (by kernel_rfl : Try.f188.body.bind (strip 6 (fun _ => [])) = some A188) hn h
theorem CL188 {pre suf : List AV} {sz : Nat} {els els' : List AV} {r : LRet} (hn : (pre ++ .sl lid 0 0 els.length :: suf).length ≤ 6) (h : vc Try.prog T [] A188 (FinL T [(.cell 0 195)] sz r els') ⟨envOf 0 (pre ++ .sl lid 0 0 els.length :: suf), [(lid, some ⟨sz, els, 0, false⟩)]⟩) : CallL Try.prog 188 pre sz els suf r els' :=
  callL_of tok mixed Try.func188 (by kernel_rfl) (by kernel_rfl) (by kernel_rfl : Try.f188.ntmps = 6) (by kernel_rfl : Try.f188.body.bind (strip 6 (fun _ => [])) = some A188) hn h

/-- vyakarana vyakaranaref04.pro -/
def A189 : ACode :=
  (.seq (.reg [] [⟨some 8, (.box 46 (.tmp 3)), 0, none⟩,
      ⟨some 9, (.box 46 (.tmp 4)), 0, none⟩,
      ⟨some 10, (.assign (.const (.bool false))), 4, none⟩])
    (.seq (.seq (.reg [] [⟨some 15, (.move (.tmp 2)), 3, none⟩])
    (.block 0 (.seq (.reg [] [⟨some 17, (.binOp .eql 3 (.tmp 15) (.const (.int .i64 1)) 3), 4, none⟩,
      ⟨some 16, (.assign (.tmp 17)), 4, none⟩])
    (.cond (.tmp 16)
    (.seq (.draw [] [⟨some 19, (.move (.tmp 0)), 22, none⟩,
      ⟨some 20, (.fieldAddr 46 (.tmp 8) 0), 0, none⟩,
      ⟨some 21, (.load 3 (.tmp 20)), 3, none⟩,
      ⟨some 22, (.indexAddr 22 (.tmp 19) (.tmp 21)), 0, none⟩,
      ⟨some 23, (.load 72 (.tmp 22)), 72, none⟩,
      ⟨some 24, (.move (.tmp 0)), 22, none⟩,
      ⟨some 25, (.fieldAddr 46 (.tmp 9) 0), 0, none⟩,
      ⟨some 26, (.load 3 (.tmp 25)), 3, none⟩,
      ⟨some 27, (.indexAddr 22 (.tmp 24) (.tmp 26)), 0, none⟩,
      ⟨some 28, (.load 72 (.tmp 27)), 72, none⟩,
      ⟨some 29, (.call ⟨(.value (.func 226)), #[(.tmp 23), (.tmp 28)], #[72, 72]⟩), 40, none⟩,
      ⟨some 18, (.move (.tmp 29)), 40, none⟩,
      ⟨some 30, (.extract (.tmp 18) 0), 4, none⟩,
      ⟨some 31, (.extract (.tmp 18) 1), 29, none⟩,
      ⟨some 11, (.assign (.tmp 30)), 4, none⟩,
      ⟨some 12, (.assign (.tmp 31)), 29, none⟩] [(0, 1), (0, 2), (0, 5), (1, 5), (2, 5), (3, 5), (4, 5), (0, 6), (1, 6), (2, 6), (3, 6), (4, 6), (5, 6), (0, 7), (1, 7), (2, 7), (3, 7), (4, 7), (5, 7), (0, 8), (1, 8), (2, 8), (3, 8), (4, 8), (0, 9), (1, 9), (2, 9), (3, 9), (4, 9), (12, 13), (13, 14)])
    (.seq (.draw [] [⟨some 33, (.move (.tmp 0)), 22, none⟩,
      ⟨some 34, (.fieldAddr 46 (.tmp 9) 0), 0, none⟩,
      ⟨some 35, (.load 3 (.tmp 34)), 3, none⟩,
      ⟨some 36, (.indexAddr 22 (.tmp 33) (.tmp 35)), 0, none⟩,
      ⟨some 37, (.load 72 (.tmp 36)), 72, none⟩,
      ⟨some 38, (.move (.tmp 0)), 22, none⟩,
      ⟨some 39, (.fieldAddr 46 (.tmp 8) 0), 0, none⟩,
      ⟨some 40, (.load 3 (.tmp 39)), 3, none⟩,
      ⟨some 41, (.indexAddr 22 (.tmp 38) (.tmp 40)), 0, none⟩,
      ⟨some 42, (.load 72 (.tmp 41)), 72, none⟩,
      ⟨some 43, (.call ⟨(.value (.func 226)), #[(.tmp 37), (.tmp 42)], #[72, 72]⟩), 40, none⟩,
      ⟨some 32, (.move (.tmp 43)), 40, none⟩,
      ⟨some 44, (.extract (.tmp 32) 0), 4, none⟩,
      ⟨some 45, (.extract (.tmp 32) 1), 29, none⟩,
      ⟨some 13, (.assign (.tmp 44)), 4, none⟩,
      ⟨some 14, (.assign (.tmp 45)), 29, none⟩] [(0, 1), (0, 2), (0, 5), (1, 5), (2, 5), (3, 5), (4, 5), (0, 6), (1, 6), (2, 6), (3, 6), (4, 6), (5, 6), (0, 7), (1, 7), (2, 7), (3, 7), (4, 7), (5, 7), (0, 8), (1, 8), (2, 8), (3, 8), (4, 8), (0, 9), (1, 9), (2, 9), (3, 9), (4, 9), (12, 13), (13, 14)])
    (.seq (.reg [] [⟨some 46, (.fieldAddr 46 (.tmp 8) 1), 0, none⟩,
      ⟨some 47, (.load 3 (.tmp 46)), 3, none⟩,
      ⟨some 48, (.fieldAddr 46 (.tmp 9) 1), 0, none⟩,
      ⟨some 49, (.load 3 (.tmp 48)), 3, none⟩,
      ⟨some 50, (.binOp .eql 3 (.tmp 47) (.tmp 49) 3), 4, none⟩,
      ⟨some 51, (.move (.tmp 50)), 4, none⟩,
      ⟨some 52, (.move (.tmp 11)), 4, some (51, true)⟩,
      ⟨some 53, (.pick (.tmp 51) (.tmp 52) (.const (.bool false))), 4, none⟩,
      ⟨some 54, (.move (.tmp 53)), 4, none⟩,
      ⟨some 55, (.move (.tmp 13)), 4, some (54, true)⟩,
      ⟨some 56, (.unOp .not 4 (.tmp 55)), 4, some (54, true)⟩,
      ⟨some 57, (.pick (.tmp 54) (.tmp 56) (.const (.bool false))), 4, none⟩,
      ⟨some 10, (.assign (.tmp 57)), 4, none⟩])
    .ret)))
    (.seq (.reg [] [⟨some 59, (.binOp .eql 3 (.tmp 15) (.const (.int .i64 2)) 3), 4, none⟩,
      ⟨some 58, (.assign (.tmp 59)), 4, none⟩])
    (.cond (.tmp 58)
    (.seq (.reg [] [⟨some 60, (.move (.tmp 0)), 22, none⟩,
      ⟨some 61, (.move (.tmp 1)), 23, none⟩,
      ⟨some 62, (.load 46 (.tmp 8)), 46, none⟩,
      ⟨some 63, (.load 46 (.tmp 9)), 46, none⟩,
      ⟨some 64, (.call ⟨(.value (.func 122)), #[(.tmp 60), (.tmp 61), (.tmp 62), (.tmp 63)], #[22, 23, 46, 46]⟩), 4, none⟩,
      ⟨some 65, (.move (.tmp 64)), 4, none⟩,
      ⟨some 66, (.move (.tmp 0)), 22, some (65, true)⟩,
      ⟨some 67, (.move (.tmp 1)), 23, some (65, true)⟩,
      ⟨some 68, (.load 46 (.tmp 9)), 46, some (65, true)⟩,
      ⟨some 69, (.load 46 (.tmp 8)), 46, some (65, true)⟩,
      ⟨some 70, (.call ⟨(.value (.func 122)), #[(.tmp 66), (.tmp 67), (.tmp 68), (.tmp 69)], #[22, 23, 46, 46]⟩), 4, some (65, true)⟩,
      ⟨some 71, (.unOp .not 4 (.tmp 70)), 4, some (65, true)⟩,
      ⟨some 72, (.pick (.tmp 65) (.tmp 71) (.const (.bool false))), 4, none⟩,
      ⟨some 10, (.assign (.tmp 72)), 4, none⟩])
    .ret)
    (.seq (.reg [] [⟨some 74, (.binOp .eql 3 (.tmp 15) (.const (.int .i64 3)) 3), 4, none⟩,
      ⟨some 73, (.assign (.tmp 74)), 4, none⟩])
    (.cond (.tmp 73)
    (.seq (.reg [] [⟨some 75, (.fieldAddr 46 (.tmp 8) 1), 0, none⟩,
      ⟨some 76, (.load 3 (.tmp 75)), 3, none⟩,
      ⟨some 77, (.fieldAddr 46 (.tmp 9) 1), 0, none⟩,
      ⟨some 78, (.load 3 (.tmp 77)), 3, none⟩,
      ⟨some 79, (.binOp .lss 3 (.tmp 76) (.tmp 78) 3), 4, none⟩,
      ⟨some 10, (.assign (.tmp 79)), 4, none⟩])
    .ret)
    .skip))))))))
    (.seq (.reg [] [⟨some 80, (.fieldAddr 46 (.tmp 8) 0), 0, none⟩,
      ⟨some 81, (.load 3 (.tmp 80)), 3, none⟩,
      ⟨some 82, (.fieldAddr 46 (.tmp 9) 0), 0, none⟩,
      ⟨some 83, (.load 3 (.tmp 82)), 3, none⟩,
      ⟨some 84, (.binOp .gtr 3 (.tmp 81) (.tmp 83) 3), 4, none⟩,
      ⟨some 10, (.assign (.tmp 84)), 4, none⟩])
    .ret)))
theorem C189 {args : List AV} {r : AV} (hn : args.length ≤ 85) (h : vc Try.prog T [] A189 (Fin T [(.tmp 10)] r) ⟨envOf 0 args, []⟩) : CallP Try.prog 189 args r :=
  callP_of tok mixed Try.func189 (by kernel_rfl) (by kernel_rfl) (by kernel_rfl : Try.f189.ntmps = 85) (by kernel_rfl : Try.f189.body.bind (strip 85 (fun _ => [])) = some A189) hn h
theorem CO189 {args : List AV} {sz : Nat} {els : List AV} (hn : args.length ≤ 85) (h : vc Try.prog T [] A189 (FinO [(.tmp 10)] sz els) ⟨envOf 0 args, []⟩) : CallO Try.prog 189 args sz els :=
  callO_of tok mixed Try.func189 (by kernel_rfl) (by kernel_rfl) (by kernel_rfl : Try.f189.ntmps = 85) (by kernel_rfl : Try.f189.body.bind (strip 85 (fun _ => [])) = some A189) hn h
theorem CL189 {pre suf : List AV} {sz : Nat} {els els' : List AV} {r : LRet} (hn : (pre ++ .sl lid 0 0 els.length :: suf).length ≤ 85) (h : vc Try.prog T [] A189 (FinL T [(.tmp 10)] sz r els') ⟨envOf 0 (pre ++ .sl lid 0 0 els.length :: suf), [(lid, some ⟨sz, els, 0, false⟩)]⟩) : CallL Try.prog 189 pre sz els suf r els' :=
  callL_of tok mixed Try.func189 (by kernel_rfl) (by kernel_rfl) (by kernel_rfl : Try.f189.ntmps = 85) (by kernel_rfl : Try.f189.body.bind (strip 85 (fun _ => [])) = some A189) hn h

/-- vyakarana vyakaranaref02.isWord -/
def A195 : ACode :=
  (.seq (.reg [] [⟨some 2, (.assign (.const (.bool false))), 4, none⟩])
    (.seq (.seq (.reg [] [⟨some 3, (.assign (.const (.int .i64 0))), 3, none⟩])
    (.block 0 (.loop (.seq (.seq (.reg [] [⟨some 4, (.move (.tmp 3)), 3, none⟩,
      ⟨some 5, (.move (.tmp 0)), 23, none⟩,
      ⟨some 6, (.call ⟨(.builtin .len), #[(.tmp 5)], #[23]⟩), 3, none⟩,
      ⟨some 7, (.binOp .lss 3 (.tmp 4) (.tmp 6) 3), 4, none⟩])
    (.cond (.tmp 7)
    .skip
    (.exit 0)))
    (.seq (.block 1 (.seq (.reg [] [⟨some 10, (.move (.tmp 0)), 23, none⟩,
      ⟨some 11, (.move (.tmp 3)), 3, none⟩,
      ⟨some 12, (.indexAddr 23 (.tmp 10) (.tmp 11)), 0, none⟩,
      ⟨some 13, (.load 3 (.tmp 12)), 3, none⟩,
      ⟨some 14, (.call ⟨(.value (.func 213)), #[(.tmp 13), (.const (.int .i64 0)), (.const (.int .i64 5))], #[3, 3, 3]⟩), 4, none⟩,
      ⟨some 15, (.unOp .not 4 (.tmp 14)), 4, none⟩])
    (.cond (.tmp 15)
    (.seq (.reg [] [⟨some 2, (.assign (.const (.bool false))), 4, none⟩])
    .ret)
    .skip)))
    (.reg [] [⟨some 8, (.move (.tmp 3)), 3, none⟩,
      ⟨some 9, (.binOp .add 3 (.tmp 8) (.const (.int .i64 1)) 3), 3, none⟩,
      ⟨some 3, (.assign (.tmp 9)), 3, none⟩]))))))
    (.seq (.reg [] [⟨some 2, (.assign (.const (.bool true))), 4, none⟩])
    .ret)))
theorem C195 {args : List AV} {r : AV} (hn : args.length ≤ 16) (h : vc Try.prog T [] A195 (Fin T [(.tmp 2)] r) ⟨envOf 0 args, []⟩) : CallP Try.prog 195 args r :=
  callP_of tok mixed Try.func195 (by kernel_rfl) (by kernel_rfl) (by kernel_rfl : Try.f195.ntmps = 16) (by kernel_rfl : Try.f195.body.bind (strip 16 (fun _ => [])) = some A195) hn h
theorem CO195 {args : List AV} {sz : Nat} {els : List AV} (hn : args.length ≤ 16) (h : vc Try.prog T [] A195 (FinO [(.tmp 2)] sz els) ⟨envOf 0 args, []⟩) : CallO Try.prog 195 args sz els :=
  callO_of tok mixed Try.func195 (by kernel_rfl) (by kernel_rfl) (by kernel_rfl : Try.f195.ntmps = 16) (by kernel_rfl : Try.f195.body.bind (strip 16 (fun _ => [])) = some A195) hn h
theorem CL195 {pre suf : List AV} {sz : Nat} {els els' : List AV} {r : LRet} (hn : (pre ++ .sl lid 0 0 els.length :: suf).length ≤ 16) (h : vc Try.prog T [] A195 (FinL T [(.tmp 2)] sz r els') ⟨envOf 0 (pre ++ .sl lid 0 0 els.length :: suf), [(lid, some ⟨sz, els, 0, false⟩)]⟩) : CallL Try.prog 195 pre sz els suf r els' :=
  callL_of tok mixed Try.func195 (by kernel_rfl) (by kernel_rfl) (by kernel_rfl : Try.f195.ntmps = 16) (by kernel_rfl : Try.f195.body.bind (strip 16 (fun _ => [])) = some A195) hn h

/-- vyakarana vyakaranaref01.IsSet -/
def A214 : ACode :=
  (.seq (.reg [] [⟨some 6, (.assign (.const (.bool false))), 4, none⟩])
    (.seq (.seq (.reg [] [⟨some 7, (.assign (.const (.int .i64 0))), 3, none⟩])
    (.block 0 (.loop (.seq (.seq (.reg [] [⟨some 8, (.move (.tmp 7)), 3, none⟩,
      ⟨some 9, (.move (.tmp 0)), 23, none⟩,
      ⟨some 10, (.call ⟨(.builtin .len), #[(.tmp 9)], #[23]⟩), 3, none⟩,
      ⟨some 11, (.binOp .lss 3 (.tmp 8) (.tmp 10) 3), 4, none⟩])
    (.cond (.tmp 11)
    .skip
    (.exit 0)))
    (.seq (.block 1 (.seq (.draw [] [⟨some 14, (.move (.tmp 0)), 23, none⟩,
      ⟨some 15, (.move (.tmp 7)), 3, none⟩,
      ⟨some 16, (.indexAddr 23 (.tmp 14) (.tmp 15)), 0, none⟩,
      ⟨some 17, (.load 3 (.tmp 16)), 3, none⟩,
      ⟨some 18, (.move (.tmp 1)), 3, none⟩,
      ⟨some 19, (.move (.tmp 2)), 3, none⟩,
      ⟨some 20, (.call ⟨(.value (.func 235)), #[(.tmp 17), (.tmp 18), (.tmp 19)], #[3, 3, 3]⟩), 4, none⟩,
      ⟨some 21, (.unOp .not 4 (.tmp 20)), 4, none⟩,
      ⟨some 22, (.move (.tmp 21)), 4, none⟩,
      ⟨some 23, (.move (.tmp 7)), 3, some (22, false)⟩,
      ⟨some 24, (.binOp .gtr 3 (.tmp 23) (.const (.int .i64 0)) 3), 4, some (22, false)⟩,
      ⟨some 25, (.move (.tmp 24)), 4, some (22, false)⟩,
      ⟨some 26, (.move (.tmp 0)), 23, some (25, true)⟩,
      ⟨some 27, (.move (.tmp 7)), 3, some (25, true)⟩,
      ⟨some 28, (.indexAddr 23 (.tmp 26) (.tmp 27)), 0, some (25, true)⟩,
      ⟨some 29, (.load 3 (.tmp 28)), 3, some (25, true)⟩,
      ⟨some 30, (.move (.tmp 0)), 23, some (25, true)⟩,
      ⟨some 31, (.move (.tmp 7)), 3, some (25, true)⟩,
      ⟨some 32, (.binOp .sub 3 (.tmp 31) (.const (.int .i64 1)) 3), 3, some (25, true)⟩,
      ⟨some 33, (.indexAddr 23 (.tmp 30) (.tmp 32)), 0, some (25, true)⟩,
      ⟨some 34, (.load 3 (.tmp 33)), 3, some (25, true)⟩,
      ⟨some 35, (.binOp .leq 3 (.tmp 29) (.tmp 34) 3), 4, some (25, true)⟩,
      ⟨some 36, (.pick (.tmp 25) (.tmp 35) (.const (.bool false))), 4, some (22, false)⟩,
      ⟨some 37, (.pick (.tmp 22) (.const (.bool true)) (.tmp 36)), 4, none⟩] [(0, 1), (0, 4), (1, 4), (2, 4), (3, 4), (0, 5), (1, 5), (2, 5), (3, 5), (4, 5), (12, 13), (12, 16), (13, 16), (14, 16), (15, 16), (12, 17), (13, 17), (14, 17), (15, 17), (16, 17), (12, 18), (13, 18), (14, 18), (15, 18), (16, 18), (12, 19), (13, 19), (14, 19), (15, 19), (12, 20), (13, 20), (14, 20), (15, 20)])
    (.cond (.tmp 37)
    (.seq (.reg [] [⟨some 6, (.assign (.const (.bool false))), 4, none⟩])
    .ret)
    .skip)))
    (.reg [] [⟨some 12, (.move (.tmp 7)), 3, none⟩,
      ⟨some 13, (.binOp .add 3 (.tmp 12) (.const (.int .i64 1)) 3), 3, none⟩,
      ⟨some 7, (.assign (.tmp 13)), 3, none⟩]))))))
    (.seq (.reg [] [⟨some 6, (.assign (.const (.bool true))), 4, none⟩])
    .ret)))
theorem C214 {args : List AV} {r : AV} (hn : args.length ≤ 38) (h : vc Try.prog T [] A214 (Fin T [(.tmp 6)] r) ⟨envOf 0 args, []⟩) : CallP Try.prog 214 args r :=
  callP_of tok mixed Try.func214 (by kernel_rfl) (by kernel_rfl) (by kernel_rfl : Try.f214.ntmps = 38) (by kernel_rfl : Try.f214.body.bind (strip 38 (fun _ => [])) = some A214) hn h
theorem CO214 {args : List AV} {sz : Nat} {els : List AV} (hn : args.length ≤ 38) (h : vc Try.prog T [] A214 (FinO [(.tmp 6)] sz els) ⟨envOf 0 args, []⟩) : CallO Try.prog 214 args sz els :=
  callO_of tok mixed Try.func214 (by kernel_rfl) (by kernel_rfl) (by kernel_rfl : Try.f214.ntmps = 38) (by kernel_rfl : Try.f214.body.bind (strip 38 (fun _ => [])) = some A214) hn h
theorem CL214 {pre suf : List AV} {sz : Nat} {els els' : List AV} {r : LRet} (hn : (pre ++ .sl lid 0 0 els.length :: suf).length ≤ 38) (h : vc Try.prog T [] A214 (FinL T [(.tmp 6)] sz r els') ⟨envOf 0 (pre ++ .sl lid 0 0 els.length :: suf), [(lid, some ⟨sz, els, 0, false⟩)]⟩) : CallL Try.prog 214 pre sz els suf r els' :=
  callL_of tok mixed Try.func214 (by kernel_rfl) (by kernel_rfl) (by kernel_rfl : Try.f214.ntmps = 38) (by kernel_rfl : Try.f214.body.bind (strip 38 (fun _ => [])) = some A214) hn h

/-- vyakarana vyakaranaref02.asked -/
def A217 : ACode :=
  (.seq (.reg [] [⟨some 2, (.box 72 (.tmp 0)), 0, none⟩,
      ⟨some 4, (.assign (.const (.int .i64 0))), 29, none⟩])
    (.seq (.seq (.reg [] [⟨some 6, (.load 72 (.tmp 2)), 72, none⟩,
      ⟨some 7, (.call ⟨(.value (.func 165)), #[(.tmp 6)], #[72]⟩), 29, none⟩,
      ⟨some 5, (.assign (.tmp 7)), 29, none⟩])
    (.seq (.reg [] [⟨some 8, (.move (.tmp 5)), 29, none⟩,
      ⟨some 9, (.binOp .neq 29 (.tmp 8) (.const (.int .i64 0)) 29), 4, none⟩])
    (.cond (.tmp 9)
    (.seq (.reg [] [⟨some 10, (.move (.tmp 5)), 29, none⟩,
      ⟨some 4, (.assign (.tmp 10)), 29, none⟩])
    .ret)
    .skip)))
    (.seq (.reg [] [⟨some 11, (.move (.tmp 1)), 23, none⟩,
      ⟨some 12, (.call ⟨(.value (.func 138)), #[(.tmp 11)], #[23]⟩), 29, none⟩,
      ⟨some 4, (.assign (.tmp 12)), 29, none⟩])
    .ret)))
theorem C217 {args : List AV} {r : AV} (hn : args.length ≤ 13) (h : vc Try.prog T [] A217 (Fin T [(.tmp 4)] r) ⟨envOf 0 args, []⟩) : CallP Try.prog 217 args r :=
  callP_of tok mixed Try.func217 (by kernel_rfl) (by kernel_rfl) (by kernel_rfl : Try.f217.ntmps = 13) (by kernel_rfl : Try.f217.body.bind (strip 13 (fun _ => [])) = some A217) hn h
theorem CO217 {args : List AV} {sz : Nat} {els : List AV} (hn : args.length ≤ 13) (h : vc Try.prog T [] A217 (FinO [(.tmp 4)] sz els) ⟨envOf 0 args, []⟩) : CallO Try.prog 217 args sz els :=
  callO_of tok mixed Try.func217 (by kernel_rfl) (by kernel_rfl) (by kernel_rfl : Try.f217.ntmps = 13) (by kernel_rfl : Try.f217.body.bind (strip 13 (fun _ => [])) = some A217) hn h
theorem CL217 {pre suf : List AV} {sz : Nat} {els els' : List AV} {r : LRet} (hn : (pre ++ .sl lid 0 0 els.length :: suf).length ≤ 13) (h : vc Try.prog T [] A217 (FinL T [(.tmp 4)] sz r els') ⟨envOf 0 (pre ++ .sl lid 0 0 els.length :: suf), [(lid, some ⟨sz, els, 0, false⟩)]⟩) : CallL Try.prog 217 pre sz els suf r els' :=
  callL_of tok mixed Try.func217 (by kernel_rfl) (by kernel_rfl) (by kernel_rfl : Try.f217.ntmps = 13) (by kernel_rfl : Try.f217.body.bind (strip 13 (fun _ => [])) = some A217) hn h

/-- vyakarana vyakaranaref02.isPlace -/
def A218 : ACode :=
  (.seq (.reg [] [⟨some 3, (.box 72 (.tmp 0)), 0, none⟩,
      ⟨some 6, (.assign (.const (.bool false))), 4, none⟩])
    (.seq (.seq (.reg [] [⟨some 7, (.fieldAddr 72 (.tmp 3) 0), 0, none⟩,
      ⟨some 8, (.load 3 (.tmp 7)), 3, none⟩,
      ⟨some 9, (.binOp .lss 3 (.tmp 8) (.const (.int .i64 0)) 3), 4, none⟩])
    (.cond (.tmp 9)
    (.seq (.draw [] [⟨some 10, (.move (.tmp 2)), 3, none⟩,
      ⟨some 11, (.move (.tmp 1)), 23, none⟩,
      ⟨some 12, (.call ⟨(.builtin .len), #[(.tmp 11)], #[23]⟩), 3, none⟩,
      ⟨some 13, (.call ⟨(.value (.func 213)), #[(.tmp 10), (.const (.int .i64 0)), (.tmp 12)], #[3, 3, 3]⟩), 4, none⟩,
      ⟨some 14, (.move (.tmp 13)), 4, none⟩,
      ⟨some 15, (.fieldAddr 72 (.tmp 3) 2), 0, some (14, true)⟩,
      ⟨some 16, (.load 23 (.tmp 15)), 23, some (14, true)⟩,
      ⟨some 17, (.move (.tmp 1)), 23, some (14, true)⟩,
      ⟨some 18, (.move (.tmp 2)), 3, some (14, true)⟩,
      ⟨some 19, (.binOp .sub 3 (.tmp 18) (.const (.int .i64 1)) 3), 3, some (14, true)⟩,
      ⟨some 20, (.call ⟨(.value (.func 238)), #[(.tmp 17), (.tmp 19)], #[23, 3]⟩), 3, some (14, true)⟩,
      ⟨some 21, (.call ⟨(.value (.func 237)), #[(.tmp 16), (.tmp 20)], #[23, 3]⟩), 4, some (14, true)⟩,
      ⟨some 22, (.pick (.tmp 14) (.tmp 21) (.const (.bool false))), 4, none⟩,
      ⟨some 23, (.move (.tmp 22)), 4, none⟩,
      ⟨some 24, (.fieldAddr 72 (.tmp 3) 3), 0, some (23, true)⟩,
      ⟨some 25, (.load 23 (.tmp 24)), 23, some (23, true)⟩,
      ⟨some 26, (.move (.tmp 1)), 23, some (23, true)⟩,
      ⟨some 27, (.move (.tmp 2)), 3, some (23, true)⟩,
      ⟨some 28, (.call ⟨(.value (.func 238)), #[(.tmp 26), (.tmp 27)], #[23, 3]⟩), 3, some (23, true)⟩,
      ⟨some 29, (.call ⟨(.value (.func 237)), #[(.tmp 25), (.tmp 28)], #[23, 3]⟩), 4, some (23, true)⟩,
      ⟨some 30, (.pick (.tmp 23) (.tmp 29) (.const (.bool false))), 4, none⟩,
      ⟨some 6, (.assign (.tmp 30)), 4, none⟩] [(0, 1), (0, 2), (5, 7), (6, 7), (5, 8), (6, 8), (7, 8), (5, 9), (6, 9), (7, 9), (5, 10), (6, 10), (14, 16), (15, 16), (14, 17), (15, 17), (16, 17), (14, 18), (15, 18)])
    .ret)
    .skip))
    (.seq (.draw [] [⟨some 31, (.move (.tmp 2)), 3, none⟩,
      ⟨some 32, (.move (.tmp 1)), 23, none⟩,
      ⟨some 33, (.call ⟨(.builtin .len), #[(.tmp 32)], #[23]⟩), 3, none⟩,
      ⟨some 34, (.binOp .sub 3 (.tmp 33) (.const (.int .i64 1)) 3), 3, none⟩,
      ⟨some 35, (.call ⟨(.value (.func 213)), #[(.tmp 31), (.const (.int .i64 0)), (.tmp 34)], #[3, 3, 3]⟩), 4, none⟩,
      ⟨some 36, (.move (.tmp 35)), 4, none⟩,
      ⟨some 37, (.move (.tmp 1)), 23, some (36, true)⟩,
      ⟨some 38, (.move (.tmp 2)), 3, some (36, true)⟩,
      ⟨some 39, (.indexAddr 23 (.tmp 37) (.tmp 38)), 0, some (36, true)⟩,
      ⟨some 40, (.load 3 (.tmp 39)), 3, some (36, true)⟩,
      ⟨some 41, (.fieldAddr 72 (.tmp 3) 0), 0, some (36, true)⟩,
      ⟨some 42, (.load 3 (.tmp 41)), 3, some (36, true)⟩,
      ⟨some 43, (.binOp .eql 3 (.tmp 40) (.tmp 42) 3), 4, some (36, true)⟩,
      ⟨some 44, (.pick (.tmp 36) (.tmp 43) (.const (.bool false))), 4, none⟩,
      ⟨some 45, (.move (.tmp 44)), 4, none⟩,
      ⟨some 46, (.fieldAddr 72 (.tmp 3) 2), 0, some (45, true)⟩,
      ⟨some 47, (.load 23 (.tmp 46)), 23, some (45, true)⟩,
      ⟨some 48, (.move (.tmp 1)), 23, some (45, true)⟩,
      ⟨some 49, (.move (.tmp 2)), 3, some (45, true)⟩,
      ⟨some 50, (.binOp .sub 3 (.tmp 49) (.const (.int .i64 1)) 3), 3, some (45, true)⟩,
      ⟨some 51, (.call ⟨(.value (.func 238)), #[(.tmp 48), (.tmp 50)], #[23, 3]⟩), 3, some (45, true)⟩,
      ⟨some 52, (.call ⟨(.value (.func 237)), #[(.tmp 47), (.tmp 51)], #[23, 3]⟩), 4, some (45, true)⟩,
      ⟨some 53, (.pick (.tmp 45) (.tmp 52) (.const (.bool false))), 4, none⟩,
      ⟨some 54, (.move (.tmp 53)), 4, none⟩,
      ⟨some 55, (.fieldAddr 72 (.tmp 3) 3), 0, some (54, true)⟩,
      ⟨some 56, (.load 23 (.tmp 55)), 23, some (54, true)⟩,
      ⟨some 57, (.move (.tmp 1)), 23, some (54, true)⟩,
      ⟨some 58, (.move (.tmp 2)), 3, some (54, true)⟩,
      ⟨some 59, (.binOp .add 3 (.tmp 58) (.const (.int .i64 1)) 3), 3, some (54, true)⟩,
      ⟨some 60, (.call ⟨(.value (.func 238)), #[(.tmp 57), (.tmp 59)], #[23, 3]⟩), 3, some (54, true)⟩,
      ⟨some 61, (.call ⟨(.value (.func 237)), #[(.tmp 56), (.tmp 60)], #[23, 3]⟩), 4, some (54, true)⟩,
      ⟨some 62, (.pick (.tmp 54) (.tmp 61) (.const (.bool false))), 4, none⟩,
      ⟨some 6, (.assign (.tmp 62)), 4, none⟩] [(0, 1), (0, 2), (0, 3), (6, 7), (6, 10), (7, 10), (8, 10), (9, 10), (6, 11), (7, 11), (8, 11), (9, 11), (15, 17), (16, 17), (15, 18), (16, 18), (17, 18), (15, 19), (16, 19), (17, 19), (15, 20), (16, 20), (24, 26), (25, 26), (24, 27), (25, 27), (26, 27), (24, 28), (25, 28), (26, 28), (24, 29), (25, 29)])
    .ret)))
theorem C218 {args : List AV} {r : AV} (hn : args.length ≤ 63) (h : vc Try.prog T [] A218 (Fin T [(.tmp 6)] r) ⟨envOf 0 args, []⟩) : CallP Try.prog 218 args r :=
  callP_of tok mixed Try.func218 (by kernel_rfl) (by kernel_rfl) (by kernel_rfl : Try.f218.ntmps = 63) (by kernel_rfl : Try.f218.body.bind (strip 63 (fun _ => [])) = some A218) hn h
theorem CO218 {args : List AV} {sz : Nat} {els : List AV} (hn : args.length ≤ 63) (h : vc Try.prog T [] A218 (FinO [(.tmp 6)] sz els) ⟨envOf 0 args, []⟩) : CallO Try.prog 218 args sz els :=
  callO_of tok mixed Try.func218 (by kernel_rfl) (by kernel_rfl) (by kernel_rfl : Try.f218.ntmps = 63) (by kernel_rfl : Try.f218.body.bind (strip 63 (fun _ => [])) = some A218) hn h
theorem CL218 {pre suf : List AV} {sz : Nat} {els els' : List AV} {r : LRet} (hn : (pre ++ .sl lid 0 0 els.length :: suf).length ≤ 63) (h : vc Try.prog T [] A218 (FinL T [(.tmp 6)] sz r els') ⟨envOf 0 (pre ++ .sl lid 0 0 els.length :: suf), [(lid, some ⟨sz, els, 0, false⟩)]⟩) : CallL Try.prog 218 pre sz els suf r els' :=
  callL_of tok mixed Try.func218 (by kernel_rfl) (by kernel_rfl) (by kernel_rfl : Try.f218.ntmps = 63) (by kernel_rfl : Try.f218.body.bind (strip 63 (fun _ => [])) = some A218) hn h

/-- vyakarana vyakaranaref02.told -/
def A219 : ACode :=
  (.seq (.reg [] [⟨some 2, (.assign (.const (.slice none 0 0))), 23, none⟩,
      ⟨some 3, (.assign (.const (.int .i64 0))), 29, none⟩])
    (.seq (.seq (.reg [] [⟨some 4, (.move (.tmp 0)), 23, none⟩,
      ⟨some 5, (.call ⟨(.builtin .len), #[(.tmp 4)], #[23]⟩), 3, none⟩,
      ⟨some 6, (.binOp .gtr 3 (.tmp 5) (.const (.int .i64 8)) 3), 4, none⟩])
    (.cond (.tmp 6)
    (.seq (.reg [] [⟨some 2, (.assign (.const (.slice none 0 0))), 23, none⟩,
      ⟨some 3, (.assign (.const (.int .i64 3))), 29, none⟩])
    .ret)
    .skip))
    (.seq (.reg [] [⟨some 7, (.move (.tmp 0)), 23, none⟩,
      ⟨some 2, (.assign (.tmp 7)), 23, none⟩,
      ⟨some 3, (.assign (.const (.int .i64 0))), 29, none⟩])
    .ret)))
theorem C219 {args : List AV} {r : AV} (hn : args.length ≤ 8) (h : vc Try.prog T [] A219 (Fin T [(.tmp 2), (.tmp 3)] r) ⟨envOf 0 args, []⟩) : CallP Try.prog 219 args r :=
  callP_of tok mixed Try.func219 (by kernel_rfl) (by kernel_rfl) (by kernel_rfl : Try.f219.ntmps = 8) (by kernel_rfl : Try.f219.body.bind (strip 8 (fun _ => [])) = some A219) hn h
theorem CO219 {args : List AV} {sz : Nat} {els : List AV} (hn : args.length ≤ 8) (h : vc Try.prog T [] A219 (FinO [(.tmp 2), (.tmp 3)] sz els) ⟨envOf 0 args, []⟩) : CallO Try.prog 219 args sz els :=
  callO_of tok mixed Try.func219 (by kernel_rfl) (by kernel_rfl) (by kernel_rfl : Try.f219.ntmps = 8) (by kernel_rfl : Try.f219.body.bind (strip 8 (fun _ => [])) = some A219) hn h
theorem CL219 {pre suf : List AV} {sz : Nat} {els els' : List AV} {r : LRet} (hn : (pre ++ .sl lid 0 0 els.length :: suf).length ≤ 8) (h : vc Try.prog T [] A219 (FinL T [(.tmp 2), (.tmp 3)] sz r els') ⟨envOf 0 (pre ++ .sl lid 0 0 els.length :: suf), [(lid, some ⟨sz, els, 0, false⟩)]⟩) : CallL Try.prog 219 pre sz els suf r els' :=
  callL_of tok mixed Try.func219 (by kernel_rfl) (by kernel_rfl) (by kernel_rfl : Try.f219.ntmps = 8) (by kernel_rfl : Try.f219.body.bind (strip 8 (fun _ => [])) = some A219) hn h

/-- vyakarana vyakaranaref02.put -/
def A220 : ACode :=
  (.seq (.reg [] [⟨some 3, (.box 72 (.tmp 0)), 0, none⟩,
      ⟨some 6, (.assign (.const (.slice none 0 0))), 23, none⟩])
    (.seq (.reg [] [⟨some 8, (.buildSlice 23 0 #[]), 23, none⟩,
      ⟨some 9, (.move (.tmp 1)), 23, none⟩,
      ⟨some 10, (.move (.tmp 2)), 3, none⟩,
      ⟨some 11, (.slice 23 (.tmp 9) none (some (.tmp 10)) none), 23, none⟩,
      ⟨some 12, (.call ⟨(.builtin .append), #[(.tmp 8), (.tmp 11)], #[23, 23]⟩), 23, none⟩,
      ⟨some 7, (.assign (.tmp 12)), 23, none⟩])
    (.seq (.reg [] [⟨some 13, (.move (.tmp 7)), 23, none⟩,
      ⟨some 14, (.fieldAddr 72 (.tmp 3) 1), 0, none⟩,
      ⟨some 15, (.load 23 (.tmp 14)), 23, none⟩,
      ⟨some 16, (.call ⟨(.builtin .append), #[(.tmp 13), (.tmp 15)], #[23, 23]⟩), 23, none⟩,
      ⟨some 7, (.assign (.tmp 16)), 23, none⟩])
    (.seq (.seq (.reg [] [⟨some 17, (.fieldAddr 72 (.tmp 3) 0), 0, none⟩,
      ⟨some 18, (.load 3 (.tmp 17)), 3, none⟩,
      ⟨some 19, (.binOp .geq 3 (.tmp 18) (.const (.int .i64 0)) 3), 4, none⟩])
    (.cond (.tmp 19)
    (.reg [] [⟨some 20, (.move (.tmp 2)), 3, none⟩,
      ⟨some 21, (.binOp .add 3 (.tmp 20) (.const (.int .i64 1)) 3), 3, none⟩,
      ⟨some 2, (.assign (.tmp 21)), 3, none⟩])
    .skip))
    (.seq (.reg [] [⟨some 22, (.move (.tmp 7)), 23, none⟩,
      ⟨some 23, (.move (.tmp 1)), 23, none⟩,
      ⟨some 24, (.move (.tmp 2)), 3, none⟩,
      ⟨some 25, (.slice 23 (.tmp 23) (some (.tmp 24)) none none), 23, none⟩,
      ⟨some 26, (.call ⟨(.builtin .append), #[(.tmp 22), (.tmp 25)], #[23, 23]⟩), 23, none⟩,
      ⟨some 6, (.assign (.tmp 26)), 23, none⟩])
    .ret)))))
theorem C220 {args : List AV} {r : AV} (hn : args.length ≤ 27) (h : vc Try.prog T [] A220 (Fin T [(.tmp 6)] r) ⟨envOf 0 args, []⟩) : CallP Try.prog 220 args r :=
  callP_of tok mixed Try.func220 (by kernel_rfl) (by kernel_rfl) (by kernel_rfl : Try.f220.ntmps = 27) (by kernel_rfl : Try.f220.body.bind (strip 27 (fun _ => [])) = some A220) hn h
theorem CO220 {args : List AV} {sz : Nat} {els : List AV} (hn : args.length ≤ 27) (h : vc Try.prog T [] A220 (FinO [(.tmp 6)] sz els) ⟨envOf 0 args, []⟩) : CallO Try.prog 220 args sz els :=
  callO_of tok mixed Try.func220 (by kernel_rfl) (by kernel_rfl) (by kernel_rfl : Try.f220.ntmps = 27) (by kernel_rfl : Try.f220.body.bind (strip 27 (fun _ => [])) = some A220) hn h
theorem CL220 {pre suf : List AV} {sz : Nat} {els els' : List AV} {r : LRet} (hn : (pre ++ .sl lid 0 0 els.length :: suf).length ≤ 27) (h : vc Try.prog T [] A220 (FinL T [(.tmp 6)] sz r els') ⟨envOf 0 (pre ++ .sl lid 0 0 els.length :: suf), [(lid, some ⟨sz, els, 0, false⟩)]⟩) : CallL Try.prog 220 pre sz els suf r els' :=
  callL_of tok mixed Try.func220 (by kernel_rfl) (by kernel_rfl) (by kernel_rfl : Try.f220.ntmps = 27) (by kernel_rfl : Try.f220.body.bind (strip 27 (fun _ => [])) = some A220) hn h

/-- vyakarana order.reasons 1 -/
def A221 : ACode :=
  (.seq (.reg [] [⟨some 4, (.box 120 (.tmp 1)), 0, none⟩,
      ⟨some 5, (.box 120 (.tmp 2)), 0, none⟩,
      ⟨some 6, (.assign (.const (.bool false))), 4, none⟩])
    (.seq (.reg [] [⟨some 7, (.fieldAddr 120 (.tmp 4) 0), 0, none⟩,
      ⟨some 8, (.fieldAddr 46 (.tmp 7) 1), 0, none⟩,
      ⟨some 9, (.load 3 (.tmp 8)), 3, none⟩,
      ⟨some 10, (.fieldAddr 120 (.tmp 5) 0), 0, none⟩,
      ⟨some 11, (.fieldAddr 46 (.tmp 10) 1), 0, none⟩,
      ⟨some 12, (.load 3 (.tmp 11)), 3, none⟩,
      ⟨some 13, (.binOp .eql 3 (.tmp 9) (.tmp 12) 3), 4, none⟩,
      ⟨some 14, (.move (.tmp 13)), 4, none⟩,
      ⟨some 15, (.load 120 (.tmp 4)), 120, some (14, true)⟩,
      ⟨some 16, (.load 120 (.tmp 5)), 120, some (14, true)⟩,
      ⟨some 17, (.call ⟨(.value (.func 222)), #[(.tmp 15), (.tmp 16)], #[120, 120]⟩), 4, some (14, true)⟩,
      ⟨some 18, (.pick (.tmp 14) (.tmp 17) (.const (.bool false))), 4, none⟩,
      ⟨some 6, (.assign (.tmp 18)), 4, none⟩])
    .ret))
theorem C221 {args : List AV} {r : AV} (hn : args.length ≤ 19) (h : vc Try.prog T [] A221 (Fin T [(.tmp 6)] r) ⟨envOf 0 args, []⟩) : CallP Try.prog 221 args r :=
  callP_of tok mixed Try.func221 (by kernel_rfl) (by kernel_rfl) (by kernel_rfl : Try.f221.ntmps = 19) (by kernel_rfl : Try.f221.body.bind (strip 19 (fun _ => [])) = some A221) hn h
theorem CO221 {args : List AV} {sz : Nat} {els : List AV} (hn : args.length ≤ 19) (h : vc Try.prog T [] A221 (FinO [(.tmp 6)] sz els) ⟨envOf 0 args, []⟩) : CallO Try.prog 221 args sz els :=
  callO_of tok mixed Try.func221 (by kernel_rfl) (by kernel_rfl) (by kernel_rfl : Try.f221.ntmps = 19) (by kernel_rfl : Try.f221.body.bind (strip 19 (fun _ => [])) = some A221) hn h
theorem CL221 {pre suf : List AV} {sz : Nat} {els els' : List AV} {r : LRet} (hn : (pre ++ .sl lid 0 0 els.length :: suf).length ≤ 19) (h : vc Try.prog T [] A221 (FinL T [(.tmp 6)] sz r els') ⟨envOf 0 (pre ++ .sl lid 0 0 els.length :: suf), [(lid, some ⟨sz, els, 0, false⟩)]⟩) : CallL Try.prog 221 pre sz els suf r els' :=
  callL_of tok mixed Try.func221 (by kernel_rfl) (by kernel_rfl) (by kernel_rfl : Try.f221.ntmps = 19) (by kernel_rfl : Try.f221.body.bind (strip 19 (fun _ => [])) = some A221) hn h

/-- vyakarana order.isSpecial -/
def A222 : ACode :=
  (.seq (.reg [] [⟨some 2, (.box 120 (.tmp 0)), 0, none⟩,
      ⟨some 3, (.box 120 (.tmp 1)), 0, none⟩,
      ⟨some 4, (.assign (.const (.bool false))), 4, none⟩])
    (.seq (.reg [] [⟨some 10, (.fieldAddr 120 (.tmp 2) 1), 0, none⟩,
      ⟨some 11, (.load 72 (.tmp 10)), 72, none⟩,
      ⟨some 12, (.fieldAddr 120 (.tmp 3) 1), 0, none⟩,
      ⟨some 13, (.load 72 (.tmp 12)), 72, none⟩,
      ⟨some 14, (.call ⟨(.value (.func 63)), #[(.tmp 11), (.tmp 13)], #[72, 72]⟩), 40, none⟩,
      ⟨some 9, (.move (.tmp 14)), 40, none⟩,
      ⟨some 15, (.extract (.tmp 9) 0), 4, none⟩,
      ⟨some 16, (.extract (.tmp 9) 1), 29, none⟩,
      ⟨some 5, (.assign (.tmp 15)), 4, none⟩,
      ⟨some 6, (.assign (.tmp 16)), 29, none⟩])
    (.seq (.reg [] [⟨some 18, (.fieldAddr 120 (.tmp 3) 1), 0, none⟩,
      ⟨some 19, (.load 72 (.tmp 18)), 72, none⟩,
      ⟨some 20, (.fieldAddr 120 (.tmp 2) 1), 0, none⟩,
      ⟨some 21, (.load 72 (.tmp 20)), 72, none⟩,
      ⟨some 22, (.call ⟨(.value (.func 63)), #[(.tmp 19), (.tmp 21)], #[72, 72]⟩), 40, none⟩,
      ⟨some 17, (.move (.tmp 22)), 40, none⟩,
      ⟨some 23, (.extract (.tmp 17) 0), 4, none⟩,
      ⟨some 24, (.extract (.tmp 17) 1), 29, none⟩,
      ⟨some 7, (.assign (.tmp 23)), 4, none⟩,
      ⟨some 8, (.assign (.tmp 24)), 29, none⟩])
    (.seq (.reg [] [⟨some 25, (.move (.tmp 5)), 4, none⟩,
      ⟨some 26, (.move (.tmp 25)), 4, none⟩,
      ⟨some 27, (.move (.tmp 7)), 4, some (26, true)⟩,
      ⟨some 28, (.unOp .not 4 (.tmp 27)), 4, some (26, true)⟩,
      ⟨some 29, (.pick (.tmp 26) (.tmp 28) (.const (.bool false))), 4, none⟩,
      ⟨some 4, (.assign (.tmp 29)), 4, none⟩])
    .ret))))
theorem C222 {args : List AV} {r : AV} (hn : args.length ≤ 30) (h : vc Try.prog T [] A222 (Fin T [(.tmp 4)] r) ⟨envOf 0 args, []⟩) : CallP Try.prog 222 args r :=
  callP_of tok mixed Try.func222 (by kernel_rfl) (by kernel_rfl) (by kernel_rfl : Try.f222.ntmps = 30) (by kernel_rfl : Try.f222.body.bind (strip 30 (fun _ => [])) = some A222) hn h
theorem CO222 {args : List AV} {sz : Nat} {els : List AV} (hn : args.length ≤ 30) (h : vc Try.prog T [] A222 (FinO [(.tmp 4)] sz els) ⟨envOf 0 args, []⟩) : CallO Try.prog 222 args sz els :=
  callO_of tok mixed Try.func222 (by kernel_rfl) (by kernel_rfl) (by kernel_rfl : Try.f222.ntmps = 30) (by kernel_rfl : Try.f222.body.bind (strip 30 (fun _ => [])) = some A222) hn h
theorem CL222 {pre suf : List AV} {sz : Nat} {els els' : List AV} {r : LRet} (hn : (pre ++ .sl lid 0 0 els.length :: suf).length ≤ 30) (h : vc Try.prog T [] A222 (FinL T [(.tmp 4)] sz r els') ⟨envOf 0 (pre ++ .sl lid 0 0 els.length :: suf), [(lid, some ⟨sz, els, 0, false⟩)]⟩) : CallL Try.prog 222 pre sz els suf r els' :=
  callL_of tok mixed Try.func222 (by kernel_rfl) (by kernel_rfl) (by kernel_rfl : Try.f222.ntmps = 30) (by kernel_rfl : Try.f222.body.bind (strip 30 (fun _ => [])) = some A222) hn h

/-- vyakarana order.reasons 2 -/
def A223 : ACode :=
  (.seq (.reg [] [⟨some 4, (.box 120 (.tmp 1)), 0, none⟩,
      ⟨some 5, (.box 120 (.tmp 2)), 0, none⟩,
      ⟨some 6, (.assign (.const (.bool false))), 4, none⟩])
    (.seq (.reg [] [⟨some 7, (.move (.tmp 0)), 23, none⟩,
      ⟨some 8, (.load 120 (.tmp 4)), 120, none⟩,
      ⟨some 9, (.load 120 (.tmp 5)), 120, none⟩,
      ⟨some 10, (.call ⟨(.value (.func 119)), #[(.tmp 7), (.tmp 8), (.tmp 9)], #[23, 120, 120]⟩), 4, none⟩,
      ⟨some 11, (.move (.tmp 10)), 4, none⟩,
      ⟨some 12, (.move (.tmp 0)), 23, some (11, true)⟩,
      ⟨some 13, (.load 120 (.tmp 5)), 120, some (11, true)⟩,
      ⟨some 14, (.load 120 (.tmp 4)), 120, some (11, true)⟩,
      ⟨some 15, (.call ⟨(.value (.func 119)), #[(.tmp 12), (.tmp 13), (.tmp 14)], #[23, 120, 120]⟩), 4, some (11, true)⟩,
      ⟨some 16, (.unOp .not 4 (.tmp 15)), 4, some (11, true)⟩,
      ⟨some 17, (.pick (.tmp 11) (.tmp 16) (.const (.bool false))), 4, none⟩,
      ⟨some 6, (.assign (.tmp 17)), 4, none⟩])
    .ret))
theorem C223 {args : List AV} {r : AV} (hn : args.length ≤ 18) (h : vc Try.prog T [] A223 (Fin T [(.tmp 6)] r) ⟨envOf 0 args, []⟩) : CallP Try.prog 223 args r :=
  callP_of tok mixed Try.func223 (by kernel_rfl) (by kernel_rfl) (by kernel_rfl : Try.f223.ntmps = 18) (by kernel_rfl : Try.f223.body.bind (strip 18 (fun _ => [])) = some A223) hn h
theorem CO223 {args : List AV} {sz : Nat} {els : List AV} (hn : args.length ≤ 18) (h : vc Try.prog T [] A223 (FinO [(.tmp 6)] sz els) ⟨envOf 0 args, []⟩) : CallO Try.prog 223 args sz els :=
  callO_of tok mixed Try.func223 (by kernel_rfl) (by kernel_rfl) (by kernel_rfl : Try.f223.ntmps = 18) (by kernel_rfl : Try.f223.body.bind (strip 18 (fun _ => [])) = some A223) hn h
theorem CL223 {pre suf : List AV} {sz : Nat} {els els' : List AV} {r : LRet} (hn : (pre ++ .sl lid 0 0 els.length :: suf).length ≤ 18) (h : vc Try.prog T [] A223 (FinL T [(.tmp 6)] sz r els') ⟨envOf 0 (pre ++ .sl lid 0 0 els.length :: suf), [(lid, some ⟨sz, els, 0, false⟩)]⟩) : CallL Try.prog 223 pre sz els suf r els' :=
  callL_of tok mixed Try.func223 (by kernel_rfl) (by kernel_rfl) (by kernel_rfl : Try.f223.ntmps = 18) (by kernel_rfl : Try.f223.body.bind (strip 18 (fun _ => [])) = some A223) hn h

/-- vyakarana order.reasons 3 -/
def A224 : ACode :=
  (.seq (.reg [] [⟨some 4, (.box 120 (.tmp 1)), 0, none⟩,
      ⟨some 5, (.box 120 (.tmp 2)), 0, none⟩,
      ⟨some 6, (.assign (.const (.bool false))), 4, none⟩])
    (.seq (.reg [] [⟨some 7, (.fieldAddr 120 (.tmp 4) 0), 0, none⟩,
      ⟨some 8, (.fieldAddr 46 (.tmp 7) 1), 0, none⟩,
      ⟨some 9, (.load 3 (.tmp 8)), 3, none⟩,
      ⟨some 10, (.fieldAddr 120 (.tmp 5) 0), 0, none⟩,
      ⟨some 11, (.fieldAddr 46 (.tmp 10) 1), 0, none⟩,
      ⟨some 12, (.load 3 (.tmp 11)), 3, none⟩,
      ⟨some 13, (.binOp .lss 3 (.tmp 9) (.tmp 12) 3), 4, none⟩,
      ⟨some 6, (.assign (.tmp 13)), 4, none⟩])
    .ret))
theorem C224 {args : List AV} {r : AV} (hn : args.length ≤ 14) (h : vc Try.prog T [] A224 (Fin T [(.tmp 6)] r) ⟨envOf 0 args, []⟩) : CallP Try.prog 224 args r :=
  callP_of tok mixed Try.func224 (by kernel_rfl) (by kernel_rfl) (by kernel_rfl : Try.f224.ntmps = 14) (by kernel_rfl : Try.f224.body.bind (strip 14 (fun _ => [])) = some A224) hn h
theorem CO224 {args : List AV} {sz : Nat} {els : List AV} (hn : args.length ≤ 14) (h : vc Try.prog T [] A224 (FinO [(.tmp 6)] sz els) ⟨envOf 0 args, []⟩) : CallO Try.prog 224 args sz els :=
  callO_of tok mixed Try.func224 (by kernel_rfl) (by kernel_rfl) (by kernel_rfl : Try.f224.ntmps = 14) (by kernel_rfl : Try.f224.body.bind (strip 14 (fun _ => [])) = some A224) hn h
theorem CL224 {pre suf : List AV} {sz : Nat} {els els' : List AV} {r : LRet} (hn : (pre ++ .sl lid 0 0 els.length :: suf).length ≤ 14) (h : vc Try.prog T [] A224 (FinL T [(.tmp 6)] sz r els') ⟨envOf 0 (pre ++ .sl lid 0 0 els.length :: suf), [(lid, some ⟨sz, els, 0, false⟩)]⟩) : CallL Try.prog 224 pre sz els suf r els' :=
  callL_of tok mixed Try.func224 (by kernel_rfl) (by kernel_rfl) (by kernel_rfl : Try.f224.ntmps = 14) (by kernel_rfl : Try.f224.body.bind (strip 14 (fun _ => [])) = some A224) hn h

/-- vyakarana order.reasons 4 -/
def A225 : ACode :=
  (.seq (.reg [] [⟨some 4, (.box 120 (.tmp 1)), 0, none⟩,
      ⟨some 5, (.box 120 (.tmp 2)), 0, none⟩,
      ⟨some 6, (.assign (.const (.bool false))), 4, none⟩])
    (.seq (.reg [] [⟨some 7, (.fieldAddr 120 (.tmp 4) 0), 0, none⟩,
      ⟨some 8, (.fieldAddr 46 (.tmp 7) 0), 0, none⟩,
      ⟨some 9, (.load 3 (.tmp 8)), 3, none⟩,
      ⟨some 10, (.fieldAddr 120 (.tmp 5) 0), 0, none⟩,
      ⟨some 11, (.fieldAddr 46 (.tmp 10) 0), 0, none⟩,
      ⟨some 12, (.load 3 (.tmp 11)), 3, none⟩,
      ⟨some 13, (.binOp .gtr 3 (.tmp 9) (.tmp 12) 3), 4, none⟩,
      ⟨some 6, (.assign (.tmp 13)), 4, none⟩])
    .ret))
theorem C225 {args : List AV} {r : AV} (hn : args.length ≤ 14) (h : vc Try.prog T [] A225 (Fin T [(.tmp 6)] r) ⟨envOf 0 args, []⟩) : CallP Try.prog 225 args r :=
  callP_of tok mixed Try.func225 (by kernel_rfl) (by kernel_rfl) (by kernel_rfl : Try.f225.ntmps = 14) (by kernel_rfl : Try.f225.body.bind (strip 14 (fun _ => [])) = some A225) hn h
theorem CO225 {args : List AV} {sz : Nat} {els : List AV} (hn : args.length ≤ 14) (h : vc Try.prog T [] A225 (FinO [(.tmp 6)] sz els) ⟨envOf 0 args, []⟩) : CallO Try.prog 225 args sz els :=
  callO_of tok mixed Try.func225 (by kernel_rfl) (by kernel_rfl) (by kernel_rfl : Try.f225.ntmps = 14) (by kernel_rfl : Try.f225.body.bind (strip 14 (fun _ => [])) = some A225) hn h
theorem CL225 {pre suf : List AV} {sz : Nat} {els els' : List AV} {r : LRet} (hn : (pre ++ .sl lid 0 0 els.length :: suf).length ≤ 14) (h : vc Try.prog T [] A225 (FinL T [(.tmp 6)] sz r els') ⟨envOf 0 (pre ++ .sl lid 0 0 els.length :: suf), [(lid, some ⟨sz, els, 0, false⟩)]⟩) : CallL Try.prog 225 pre sz els suf r els' :=
  callL_of tok mixed Try.func225 (by kernel_rfl) (by kernel_rfl) (by kernel_rfl : Try.f225.ntmps = 14) (by kernel_rfl : Try.f225.body.bind (strip 14 (fun _ => [])) = some A225) hn h

/-- vyakarana vyakaranaref02.IsSpecial -/
def A226 : ACode :=
  (.seq (.reg [] [⟨some 2, (.box 72 (.tmp 0)), 0, none⟩,
      ⟨some 3, (.box 72 (.tmp 1)), 0, none⟩,
      ⟨some 4, (.assign (.const (.bool false))), 4, none⟩,
      ⟨some 5, (.assign (.const (.int .i64 0))), 29, none⟩])
    (.seq (.seq (.reg [] [⟨some 7, (.load 72 (.tmp 2)), 72, none⟩,
      ⟨some 8, (.load 72 (.tmp 3)), 72, none⟩,
      ⟨some 9, (.call ⟨(.value (.func 239)), #[(.tmp 7), (.tmp 8)], #[72, 72]⟩), 29, none⟩,
      ⟨some 6, (.assign (.tmp 9)), 29, none⟩])
    (.seq (.reg [] [⟨some 10, (.move (.tmp 6)), 29, none⟩,
      ⟨some 11, (.binOp .neq 29 (.tmp 10) (.const (.int .i64 0)) 29), 4, none⟩])
    (.cond (.tmp 11)
    (.seq (.reg [] [⟨some 12, (.move (.tmp 6)), 29, none⟩,
      ⟨some 4, (.assign (.const (.bool false))), 4, none⟩,
      ⟨some 5, (.assign (.tmp 12)), 29, none⟩])
    .ret)
    .skip)))
    (.seq (.reg [] [⟨some 13, (.fieldAddr 72 (.tmp 2) 0), 0, none⟩,
      ⟨some 14, (.load 3 (.tmp 13)), 3, none⟩,
      ⟨some 15, (.fieldAddr 72 (.tmp 3) 0), 0, none⟩,
      ⟨some 16, (.load 3 (.tmp 15)), 3, none⟩,
      ⟨some 17, (.binOp .eql 3 (.tmp 14) (.tmp 16) 3), 4, none⟩,
      ⟨some 18, (.move (.tmp 17)), 4, none⟩,
      ⟨some 19, (.fieldAddr 72 (.tmp 2) 2), 0, some (18, true)⟩,
      ⟨some 20, (.load 23 (.tmp 19)), 23, some (18, true)⟩,
      ⟨some 21, (.fieldAddr 72 (.tmp 3) 2), 0, some (18, true)⟩,
      ⟨some 22, (.load 23 (.tmp 21)), 23, some (18, true)⟩,
      ⟨some 23, (.call ⟨(.value (.func 240)), #[(.tmp 20), (.tmp 22)], #[23, 23]⟩), 4, some (18, true)⟩,
      ⟨some 24, (.pick (.tmp 18) (.tmp 23) (.const (.bool false))), 4, none⟩,
      ⟨some 25, (.move (.tmp 24)), 4, none⟩,
      ⟨some 26, (.fieldAddr 72 (.tmp 2) 3), 0, some (25, true)⟩,
      ⟨some 27, (.load 23 (.tmp 26)), 23, some (25, true)⟩,
      ⟨some 28, (.fieldAddr 72 (.tmp 3) 3), 0, some (25, true)⟩,
      ⟨some 29, (.load 23 (.tmp 28)), 23, some (25, true)⟩,
      ⟨some 30, (.call ⟨(.value (.func 240)), #[(.tmp 27), (.tmp 29)], #[23, 23]⟩), 4, some (25, true)⟩,
      ⟨some 31, (.pick (.tmp 25) (.tmp 30) (.const (.bool false))), 4, none⟩,
      ⟨some 4, (.assign (.tmp 31)), 4, none⟩,
      ⟨some 5, (.assign (.const (.int .i64 0))), 29, none⟩])
    .ret)))
theorem C226 {args : List AV} {r : AV} (hn : args.length ≤ 32) (h : vc Try.prog T [] A226 (Fin T [(.tmp 4), (.tmp 5)] r) ⟨envOf 0 args, []⟩) : CallP Try.prog 226 args r :=
  callP_of tok mixed Try.func226 (by kernel_rfl) (by kernel_rfl) (by kernel_rfl : Try.f226.ntmps = 32) (by kernel_rfl : Try.f226.body.bind (strip 32 (fun _ => [])) = some A226) hn h
theorem CO226 {args : List AV} {sz : Nat} {els : List AV} (hn : args.length ≤ 32) (h : vc Try.prog T [] A226 (FinO [(.tmp 4), (.tmp 5)] sz els) ⟨envOf 0 args, []⟩) : CallO Try.prog 226 args sz els :=
  callO_of tok mixed Try.func226 (by kernel_rfl) (by kernel_rfl) (by kernel_rfl : Try.f226.ntmps = 32) (by kernel_rfl : Try.f226.body.bind (strip 32 (fun _ => [])) = some A226) hn h
theorem CL226 {pre suf : List AV} {sz : Nat} {els els' : List AV} {r : LRet} (hn : (pre ++ .sl lid 0 0 els.length :: suf).length ≤ 32) (h : vc Try.prog T [] A226 (FinL T [(.tmp 4), (.tmp 5)] sz r els') ⟨envOf 0 (pre ++ .sl lid 0 0 els.length :: suf), [(lid, some ⟨sz, els, 0, false⟩)]⟩) : CallL Try.prog 226 pre sz els suf r els' :=
  callL_of tok mixed Try.func226 (by kernel_rfl) (by kernel_rfl) (by kernel_rfl : Try.f226.ntmps = 32) (by kernel_rfl : Try.f226.body.bind (strip 32 (fun _ => [])) = some A226) hn h

/-- vyakarana vyakaranaref02.may -/
def A237 : ACode :=
  (.seq (.reg [] [⟨some 4, (.assign (.const (.bool false))), 4, none⟩])
    (.seq (.reg [] [⟨some 5, (.move (.tmp 0)), 23, none⟩,
      ⟨some 6, (.call ⟨(.builtin .len), #[(.tmp 5)], #[23]⟩), 3, none⟩,
      ⟨some 7, (.binOp .eql 3 (.tmp 6) (.const (.int .i64 0)) 3), 4, none⟩,
      ⟨some 8, (.move (.tmp 7)), 4, none⟩,
      ⟨some 9, (.move (.tmp 0)), 23, some (8, false)⟩,
      ⟨some 10, (.move (.tmp 1)), 3, some (8, false)⟩,
      ⟨some 11, (.call ⟨(.value (.func 67)), #[(.tmp 9), (.tmp 10)], #[23, 3]⟩), 4, some (8, false)⟩,
      ⟨some 12, (.pick (.tmp 8) (.const (.bool true)) (.tmp 11)), 4, none⟩,
      ⟨some 4, (.assign (.tmp 12)), 4, none⟩])
    .ret))
theorem C237 {args : List AV} {r : AV} (hn : args.length ≤ 13) (h : vc Try.prog T [] A237 (Fin T [(.tmp 4)] r) ⟨envOf 0 args, []⟩) : CallP Try.prog 237 args r :=
  callP_of tok mixed Try.func237 (by kernel_rfl) (by kernel_rfl) (by kernel_rfl : Try.f237.ntmps = 13) (by kernel_rfl : Try.f237.body.bind (strip 13 (fun _ => [])) = some A237) hn h
theorem CO237 {args : List AV} {sz : Nat} {els : List AV} (hn : args.length ≤ 13) (h : vc Try.prog T [] A237 (FinO [(.tmp 4)] sz els) ⟨envOf 0 args, []⟩) : CallO Try.prog 237 args sz els :=
  callO_of tok mixed Try.func237 (by kernel_rfl) (by kernel_rfl) (by kernel_rfl : Try.f237.ntmps = 13) (by kernel_rfl : Try.f237.body.bind (strip 13 (fun _ => [])) = some A237) hn h
theorem CL237 {pre suf : List AV} {sz : Nat} {els els' : List AV} {r : LRet} (hn : (pre ++ .sl lid 0 0 els.length :: suf).length ≤ 13) (h : vc Try.prog T [] A237 (FinL T [(.tmp 4)] sz r els') ⟨envOf 0 (pre ++ .sl lid 0 0 els.length :: suf), [(lid, some ⟨sz, els, 0, false⟩)]⟩) : CallL Try.prog 237 pre sz els suf r els' :=
  callL_of tok mixed Try.func237 (by kernel_rfl) (by kernel_rfl) (by kernel_rfl : Try.f237.ntmps = 13) (by kernel_rfl : Try.f237.body.bind (strip 13 (fun _ => [])) = some A237) hn h

/-- vyakarana vyakaranaref02.at -/
def A238 : ACode :=
  (.seq (.reg [] [⟨some 4, (.assign (.const (.int .i64 0))), 3, none⟩])
    (.seq (.seq (.reg [] [⟨some 5, (.move (.tmp 1)), 3, none⟩,
      ⟨some 6, (.move (.tmp 0)), 23, none⟩,
      ⟨some 7, (.call ⟨(.builtin .len), #[(.tmp 6)], #[23]⟩), 3, none⟩,
      ⟨some 8, (.binOp .sub 3 (.tmp 7) (.const (.int .i64 1)) 3), 3, none⟩,
      ⟨some 9, (.call ⟨(.value (.func 213)), #[(.tmp 5), (.const (.int .i64 0)), (.tmp 8)], #[3, 3, 3]⟩), 4, none⟩])
    (.cond (.tmp 9)
    (.seq (.reg [] [⟨some 10, (.move (.tmp 0)), 23, none⟩,
      ⟨some 11, (.move (.tmp 1)), 3, none⟩,
      ⟨some 12, (.indexAddr 23 (.tmp 10) (.tmp 11)), 0, none⟩,
      ⟨some 13, (.load 3 (.tmp 12)), 3, none⟩,
      ⟨some 4, (.assign (.tmp 13)), 3, none⟩])
    .ret)
    .skip))
    (.seq (.reg [] [⟨some 4, (.assign (.const (.int .i64 (-1)))), 3, none⟩])
    .ret)))
theorem C238 {args : List AV} {r : AV} (hn : args.length ≤ 14) (h : vc Try.prog T [] A238 (Fin T [(.tmp 4)] r) ⟨envOf 0 args, []⟩) : CallP Try.prog 238 args r :=
  callP_of tok mixed Try.func238 (by kernel_rfl) (by kernel_rfl) (by kernel_rfl : Try.f238.ntmps = 14) (by kernel_rfl : Try.f238.body.bind (strip 14 (fun _ => [])) = some A238) hn h
theorem CO238 {args : List AV} {sz : Nat} {els : List AV} (hn : args.length ≤ 14) (h : vc Try.prog T [] A238 (FinO [(.tmp 4)] sz els) ⟨envOf 0 args, []⟩) : CallO Try.prog 238 args sz els :=
  callO_of tok mixed Try.func238 (by kernel_rfl) (by kernel_rfl) (by kernel_rfl : Try.f238.ntmps = 14) (by kernel_rfl : Try.f238.body.bind (strip 14 (fun _ => [])) = some A238) hn h
theorem CL238 {pre suf : List AV} {sz : Nat} {els els' : List AV} {r : LRet} (hn : (pre ++ .sl lid 0 0 els.length :: suf).length ≤ 14) (h : vc Try.prog T [] A238 (FinL T [(.tmp 4)] sz r els') ⟨envOf 0 (pre ++ .sl lid 0 0 els.length :: suf), [(lid, some ⟨sz, els, 0, false⟩)]⟩) : CallL Try.prog 238 pre sz els suf r els' :=
  callL_of tok mixed Try.func238 (by kernel_rfl) (by kernel_rfl) (by kernel_rfl : Try.f238.ntmps = 14) (by kernel_rfl : Try.f238.body.bind (strip 14 (fun _ => [])) = some A238) hn h

/-- vyakarana vyakaranaref02.two -/
def A239 : ACode :=
  (.seq (.reg [] [⟨some 2, (.box 72 (.tmp 0)), 0, none⟩,
      ⟨some 3, (.box 72 (.tmp 1)), 0, none⟩,
      ⟨some 4, (.assign (.const (.int .i64 0))), 29, none⟩])
    (.seq (.seq (.reg [] [⟨some 6, (.load 72 (.tmp 2)), 72, none⟩,
      ⟨some 7, (.call ⟨(.value (.func 165)), #[(.tmp 6)], #[72]⟩), 29, none⟩,
      ⟨some 5, (.assign (.tmp 7)), 29, none⟩])
    (.seq (.reg [] [⟨some 8, (.move (.tmp 5)), 29, none⟩,
      ⟨some 9, (.binOp .neq 29 (.tmp 8) (.const (.int .i64 0)) 29), 4, none⟩])
    (.cond (.tmp 9)
    (.seq (.reg [] [⟨some 10, (.move (.tmp 5)), 29, none⟩,
      ⟨some 4, (.assign (.tmp 10)), 29, none⟩])
    .ret)
    .skip)))
    (.seq (.reg [] [⟨some 11, (.load 72 (.tmp 3)), 72, none⟩,
      ⟨some 12, (.call ⟨(.value (.func 165)), #[(.tmp 11)], #[72]⟩), 29, none⟩,
      ⟨some 4, (.assign (.tmp 12)), 29, none⟩])
    .ret)))
theorem C239 {args : List AV} {r : AV} (hn : args.length ≤ 13) (h : vc Try.prog T [] A239 (Fin T [(.tmp 4)] r) ⟨envOf 0 args, []⟩) : CallP Try.prog 239 args r :=
  callP_of tok mixed Try.func239 (by kernel_rfl) (by kernel_rfl) (by kernel_rfl : Try.f239.ntmps = 13) (by kernel_rfl : Try.f239.body.bind (strip 13 (fun _ => [])) = some A239) hn h
theorem CO239 {args : List AV} {sz : Nat} {els : List AV} (hn : args.length ≤ 13) (h : vc Try.prog T [] A239 (FinO [(.tmp 4)] sz els) ⟨envOf 0 args, []⟩) : CallO Try.prog 239 args sz els :=
  callO_of tok mixed Try.func239 (by kernel_rfl) (by kernel_rfl) (by kernel_rfl : Try.f239.ntmps = 13) (by kernel_rfl : Try.f239.body.bind (strip 13 (fun _ => [])) = some A239) hn h
theorem CL239 {pre suf : List AV} {sz : Nat} {els els' : List AV} {r : LRet} (hn : (pre ++ .sl lid 0 0 els.length :: suf).length ≤ 13) (h : vc Try.prog T [] A239 (FinL T [(.tmp 4)] sz r els') ⟨envOf 0 (pre ++ .sl lid 0 0 els.length :: suf), [(lid, some ⟨sz, els, 0, false⟩)]⟩) : CallL Try.prog 239 pre sz els suf r els' :=
  callL_of tok mixed Try.func239 (by kernel_rfl) (by kernel_rfl) (by kernel_rfl : Try.f239.ntmps = 13) (by kernel_rfl : Try.f239.body.bind (strip 13 (fun _ => [])) = some A239) hn h

/-- vyakarana vyakaranaref02.inside -/
def A240 : ACode :=
  (.seq (.reg [] [⟨some 4, (.assign (.const (.bool false))), 4, none⟩])
    (.seq (.seq (.reg [] [⟨some 5, (.assign (.const (.int .i64 (-1)))), 3, none⟩])
    (.block 0 (.loop (.seq (.seq (.reg [] [⟨some 6, (.move (.tmp 5)), 3, none⟩,
      ⟨some 7, (.binOp .lss 3 (.tmp 6) (.const (.int .i64 6)) 3), 4, none⟩])
    (.cond (.tmp 7)
    .skip
    (.exit 0)))
    (.seq (.block 1 (.seq (.reg [] [⟨some 10, (.move (.tmp 0)), 23, none⟩,
      ⟨some 11, (.move (.tmp 5)), 3, none⟩,
      ⟨some 12, (.call ⟨(.value (.func 237)), #[(.tmp 10), (.tmp 11)], #[23, 3]⟩), 4, none⟩,
      ⟨some 13, (.move (.tmp 12)), 4, none⟩,
      ⟨some 14, (.move (.tmp 1)), 23, some (13, true)⟩,
      ⟨some 15, (.move (.tmp 5)), 3, some (13, true)⟩,
      ⟨some 16, (.call ⟨(.value (.func 237)), #[(.tmp 14), (.tmp 15)], #[23, 3]⟩), 4, some (13, true)⟩,
      ⟨some 17, (.unOp .not 4 (.tmp 16)), 4, some (13, true)⟩,
      ⟨some 18, (.pick (.tmp 13) (.tmp 17) (.const (.bool false))), 4, none⟩])
    (.cond (.tmp 18)
    (.seq (.reg [] [⟨some 4, (.assign (.const (.bool false))), 4, none⟩])
    .ret)
    .skip)))
    (.reg [] [⟨some 8, (.move (.tmp 5)), 3, none⟩,
      ⟨some 9, (.binOp .add 3 (.tmp 8) (.const (.int .i64 1)) 3), 3, none⟩,
      ⟨some 5, (.assign (.tmp 9)), 3, none⟩]))))))
    (.seq (.reg [] [⟨some 4, (.assign (.const (.bool true))), 4, none⟩])
    .ret)))
theorem C240 {args : List AV} {r : AV} (hn : args.length ≤ 19) (h : vc Try.prog T [] A240 (Fin T [(.tmp 4)] r) ⟨envOf 0 args, []⟩) : CallP Try.prog 240 args r :=
  callP_of tok mixed Try.func240 (by kernel_rfl) (by kernel_rfl) (by kernel_rfl : Try.f240.ntmps = 19) (by kernel_rfl : Try.f240.body.bind (strip 19 (fun _ => [])) = some A240) hn h
theorem CO240 {args : List AV} {sz : Nat} {els : List AV} (hn : args.length ≤ 19) (h : vc Try.prog T [] A240 (FinO [(.tmp 4)] sz els) ⟨envOf 0 args, []⟩) : CallO Try.prog 240 args sz els :=
  callO_of tok mixed Try.func240 (by kernel_rfl) (by kernel_rfl) (by kernel_rfl : Try.f240.ntmps = 19) (by kernel_rfl : Try.f240.body.bind (strip 19 (fun _ => [])) = some A240) hn h
theorem CL240 {pre suf : List AV} {sz : Nat} {els els' : List AV} {r : LRet} (hn : (pre ++ .sl lid 0 0 els.length :: suf).length ≤ 19) (h : vc Try.prog T [] A240 (FinL T [(.tmp 4)] sz r els') ⟨envOf 0 (pre ++ .sl lid 0 0 els.length :: suf), [(lid, some ⟨sz, els, 0, false⟩)]⟩) : CallL Try.prog 240 pre sz els suf r els' :=
  callL_of tok mixed Try.func240 (by kernel_rfl) (by kernel_rfl) (by kernel_rfl : Try.f240.ntmps = 19) (by kernel_rfl : Try.f240.body.bind (strip 19 (fun _ => [])) = some A240) hn h

/-- vyakarana vyakaranaref01.Has -/
def A67 : ACode :=
  (.seq (.reg [] [⟨some 4, (.assign (.const (.bool false))), 4, none⟩])
    (.seq (.seq (.reg [] [⟨some 5, (.assign (.const (.int .i64 0))), 3, none⟩])
    (.block 0 (.loop (.seq (.seq (.reg [] [⟨some 6, (.move (.tmp 5)), 3, none⟩,
      ⟨some 7, (.move (.tmp 0)), 23, none⟩,
      ⟨some 8, (.call ⟨(.builtin .len), #[(.tmp 7)], #[23]⟩), 3, none⟩,
      ⟨some 9, (.binOp .lss 3 (.tmp 6) (.tmp 8) 3), 4, none⟩])
    (.cond (.tmp 9)
    .skip
    (.exit 0)))
    (.seq (.block 1 (.seq (.reg [] [⟨some 12, (.move (.tmp 0)), 23, none⟩,
      ⟨some 13, (.move (.tmp 5)), 3, none⟩,
      ⟨some 14, (.indexAddr 23 (.tmp 12) (.tmp 13)), 0, none⟩,
      ⟨some 15, (.load 3 (.tmp 14)), 3, none⟩,
      ⟨some 16, (.move (.tmp 1)), 3, none⟩,
      ⟨some 17, (.binOp .eql 3 (.tmp 15) (.tmp 16) 3), 4, none⟩])
    (.cond (.tmp 17)
    (.seq (.reg [] [⟨some 4, (.assign (.const (.bool true))), 4, none⟩])
    .ret)
    .skip)))
    (.reg [] [⟨some 10, (.move (.tmp 5)), 3, none⟩,
      ⟨some 11, (.binOp .add 3 (.tmp 10) (.const (.int .i64 1)) 3), 3, none⟩,
      ⟨some 5, (.assign (.tmp 11)), 3, none⟩]))))))
    (.seq (.reg [] [⟨some 4, (.assign (.const (.bool false))), 4, none⟩])
    .ret)))
theorem C67 {args : List AV} {r : AV} (hn : args.length ≤ 18) (h : vc Try.prog T [] A67 (Fin T [(.tmp 4)] r) ⟨envOf 0 args, []⟩) : CallP Try.prog 67 args r :=
  callP_of tok mixed Try.func67 (by kernel_rfl) (by kernel_rfl) (by kernel_rfl : Try.f67.ntmps = 18) (by kernel_rfl : Try.f67.body.bind (strip 18 (fun _ => [])) = some A67) hn h
theorem CO67 {args : List AV} {sz : Nat} {els : List AV} (hn : args.length ≤ 18) (h : vc Try.prog T [] A67 (FinO [(.tmp 4)] sz els) ⟨envOf 0 args, []⟩) : CallO Try.prog 67 args sz els :=
  callO_of tok mixed Try.func67 (by kernel_rfl) (by kernel_rfl) (by kernel_rfl : Try.f67.ntmps = 18) (by kernel_rfl : Try.f67.body.bind (strip 18 (fun _ => [])) = some A67) hn h
theorem CL67 {pre suf : List AV} {sz : Nat} {els els' : List AV} {r : LRet} (hn : (pre ++ .sl lid 0 0 els.length :: suf).length ≤ 18) (h : vc Try.prog T [] A67 (FinL T [(.tmp 4)] sz r els') ⟨envOf 0 (pre ++ .sl lid 0 0 els.length :: suf), [(lid, some ⟨sz, els, 0, false⟩)]⟩) : CallL Try.prog 67 pre sz els suf r els' :=
  callL_of tok mixed Try.func67 (by kernel_rfl) (by kernel_rfl) (by kernel_rfl : Try.f67.ntmps = 18) (by kernel_rfl : Try.f67.body.bind (strip 18 (fun _ => [])) = some A67) hn h

end Go.Proofs.Ytaooenmkofjafaa
end

section
/- Contracts: the reference's rules. -/
namespace Go.Proofs.Ytaooenmkofjafaa
open Go.Abs Go
set_option maxRecDepth 20000
set_option maxHeartbeats 2000000
attribute [local irreducible] PreK CondK CallK CallG CallX LoopK

theorem within2_c (n lo hi : Int) : CallP Try.prog 213 [iv n, iv lo, iv hi] (bv (decide (lo ≤ n) && decide (n ≤ hi))) := by
  refine C213 (by simp) ?_
  simp [A213]
theorem within1_c (n lo hi : Int) : CallP Try.prog 235 [iv n, iv lo, iv hi] (bv (decide (lo ≤ n) && decide (n ≤ hi))) := by
  refine C235 (by simp) ?_
  simp [A235]
theorem isWord_c (l : List Int) (hl : l.length ≤ 1000) : CallP Try.prog 195 [ints l] (bv (!l.any fun x => !isSound x)) := by
  refine C195 (by simp) ?_
  generalize hR : (!l.any fun x => !isSound x) = R
  simp [A195]
  refine LoopK.by (fun i : Nat => ⟨[(3, iv i), (0, ints l)], []⟩) (fun i => l.length - i) (fun i => i ≤ l.length ∧ (!(l.drop i).any fun x => !isSound x) = R) 0 (by simpa using hR) (by simp) ?_
  intro i Q' ⟨hi, hc⟩ hq he hr
  try simp 
  refine CondK.intro (fun h => ?_) (fun h => ?_)
  · simp at h
    rw [drop_cons l i h] at hc
    simp [h]
    try simp 
    repeat' (first
      | (refine CallX.pure (within2_c (el l i) 0 5) (by simp) (by simp) ?_; try simp )
      | (refine CallK.intro (within2_c (el l i) 0 5) (by simp) (by simp) ?_; try simp )
      | (refine CallG.intro (fun _ => within2_c (el l i) 0 5) (by simp) (by simp) ?_; try simp )
      | ((with_reducible refine PreK.intro ?_ ?_); (next => (first | omega | (intros; first | omega | (refine ⟨by omega, ?_⟩; repeat (first | assumption | constructor)) | assumption))); intro _; try simp )
      | fail)
    refine CondK.intro (fun h2 => ?_) (fun h2 => ?_)
    · have hb : isSound (el l i) = false := by simp at h2; simp [isSound]; omega
      simp [hb] at hc
      try simp 
      apply hr
      simp [hc]
    · have hb : isSound (el l i) = true := by simp at h2; simp [isSound]; omega
      simp [hb] at hc
      try simp 
      refine PreK.intro (by omega) fun _ => ?_
      try simp 
      exact hq (i + 1) _ ⟨by omega, by simpa using hc⟩ (by omega) (by simp)
  · simp at h
    rw [List.drop_eq_nil_of_le (by omega)] at hc
    simp at hc
    try simp 
    apply he
    simp [hc]
theorem rValidateWord_c (w : List Int) (hw : w.length ≤ 1000) : CallP Try.prog 138 [ints w] (iv (wordErr w)) := by
  refine C138 (by simp) ?_
  generalize hR : wordErr w = R
  unfold wordErr at hR
  simp [A138]
  refine CondK.intro (fun h => ?_) (fun h => ?_)
  · simp at h
    rw [if_pos (by omega)] at hR
    simp [hR]
  · simp at h
    rw [if_neg (by omega)] at hR
    try simp 
    try simp 
    repeat' (first
      | (refine CallX.pure (isWord_c w hw) (by simp) (by simp) ?_; try simp )
      | (refine CallK.intro (isWord_c w hw) (by simp) (by simp) ?_; try simp )
      | (refine CallG.intro (fun _ => isWord_c w hw) (by simp) (by simp) ?_; try simp )
      | ((with_reducible refine PreK.intro ?_ ?_); (next => (first | omega | (intros; first | omega | (refine ⟨by omega, ?_⟩; repeat (first | assumption | constructor)) | assumption))); intro _; try simp )
      | fail)
    refine CondK.intro (fun h2 => ?_) (fun h2 => ?_)
    · rw [if_pos (by simpa using h2)] at hR
      simp [hR]
    · rw [if_neg (by simpa using h2)] at hR
      simp [hR]
theorem rHas_c (l : List Int) (n : Int) (hl : l.length ≤ 1000) : CallP Try.prog 67 [ints l, iv n] (bv (l.any fun x => decide (n = x))) := by
  refine C67 (by simp) ?_
  generalize hR : (l.any fun x => decide (n = x)) = R
  simp [A67]
  refine LoopK.by (fun i : Nat => ⟨[(5, iv i), (0, ints l), (1, iv n)], []⟩) (fun i => l.length - i) (fun i => i ≤ l.length ∧ ((l.drop i).any fun x => decide (n = x)) = R) 0 (by simpa using hR) (by simp) ?_
  intro i Q' ⟨hi, hc⟩ hq he hr
  try simp 
  refine CondK.intro (fun h => ?_) (fun h => ?_)
  · simp at h
    rw [drop_cons l i h] at hc
    simp [h]
    refine CondK.intro (fun h2 => ?_) (fun h2 => ?_)
    · simp at h2
      simp [h2] at hc
      try simp 
      apply hr
      simp [hc]
    · simp at h2
      simp [Ne.symm h2] at hc
      try simp 
      refine PreK.intro (by omega) fun _ => ?_
      try simp 
      exact hq (i + 1) _ ⟨by omega, by simpa using hc⟩ (by omega) (by simp)
  · simp at h
    rw [List.drop_eq_nil_of_le (by omega)] at hc
    simp at hc
    try simp 
    apply he
    simp [hc]
theorem rmay_c (set : List Int) (n : Int) (hs : set.length ≤ 1000) : CallP Try.prog 237 [ints set, iv n] (bv (mayS set n)) := by
  refine C237 (by simp) ?_
  simp [A237]
  try simp 
  repeat' (first
    | (refine CallX.pure (rHas_c set n hs) (by simp) (by simp) ?_; try simp )
    | (refine CallK.intro (rHas_c set n hs) (by simp) (by simp) ?_; try simp )
    | (refine CallG.intro (fun _ => rHas_c set n hs) (by simp) (by simp) ?_; try simp )
    | ((with_reducible refine PreK.intro ?_ ?_); (next => (first | omega | (intros; first | omega | (refine ⟨by omega, ?_⟩; repeat (first | assumption | constructor)) | assumption))); intro _; try simp )
    | fail)
  unfold mayS
  cases decide (set = []) <;> rfl
theorem rat_c (w : List Int) (i : Int) (hw : w.length ≤ 1000) : CallP Try.prog 238 [ints w, iv i] (iv (atW w i)) := by
  refine C238 (by simp) ?_
  simp [A238]
  try simp 
  repeat' (first
    | (refine CallX.pure (within2_c i 0 (w.length - 1)) (by simp) (by simp) ?_; try simp )
    | (refine CallK.intro (within2_c i 0 (w.length - 1)) (by simp) (by simp) ?_; try simp )
    | (refine CallG.intro (fun _ => within2_c i 0 (w.length - 1)) (by simp) (by simp) ?_; try simp )
    | ((with_reducible refine PreK.intro ?_ ?_); (next => (first | omega | (intros; first | omega | (refine ⟨by omega, ?_⟩; repeat (first | assumption | constructor)) | assumption))); intro _; try simp )
    | fail)
  refine CondK.intro (fun h => ?_) (fun h => ?_)
  · simp at h
    have h2 : 0 ≤ i ∧ i < w.length := by omega
    simp [h2, show i.toNat < w.length by omega]
    simp [atW, h2]
  · simp at h
    have : ¬ (0 ≤ i ∧ i < w.length) := by omega
    simp [atW, this]
theorem rtold_c (w : List Int) : CallP Try.prog 219 [ints w] (.tup [ints (if 8 < w.length then [] else w), iv (shortErr w)]) := by
  refine C219 (by simp) ?_
  simp [A219]
  refine CondK.intro (fun h => ?_) (fun h => ?_)
  · simp at h
    have : 8 < w.length := by omega
    simp [shortErr, this]
  · simp at h
    have : ¬ 8 < w.length := by omega
    simp [shortErr, this]
theorem rput_c (r : Rule) (w : List Int) (i : Nat) (hi : i + (long r).toNat ≤ w.length) (hf : r.frm = -1 ∨ 0 ≤ r.frm) (hw : w.length ≤ 400) (ht : r.to.length ≤ 400) : CallP Try.prog 220 [ruleV r, ints w, iv i] (ints (putW r w i)) := by
  refine C220 (by simp) ?_
  simp [A220, show i ≤ w.length by omega]
  refine PreK.intro (by omega) fun _ => ?_
  try simp 
  refine PreK.intro (by omega) fun _ => ?_
  try simp 
  refine CondK.intro (fun h => ?_) (fun h => ?_)
  · have hl : long r = 1 := by simp at h; unfold long; rw [if_neg (by omega)]
    rw [hl] at hi
    try simp 
    refine PreK.intro (by omega) fun _ => ?_
    try simp 
    have e1 : ((i : Int) + 1).toNat = i + 1 := by omega
    have e2 : i + 1 ≤ w.length := by simpa using hi
    try simp 
    refine PreK.intro (by omega) fun _ => ?_
    try simp 
    refine PreK.intro (by omega) fun _ => ?_
    try simp 
    simp [putW, hl, List.map_take, List.map_drop, List.take_of_length_le]
    rw [List.take_of_length_le (by simp; omega)]
  · have hl : long r = 0 := by simp at h; unfold long; rw [if_pos (by omega)]
    rw [hl] at hi
    have e2 : i ≤ w.length := by simpa using hi
    try simp 
    refine PreK.intro (by omega) fun _ => ?_
    try simp 
    refine PreK.intro (by omega) fun _ => ?_
    try simp 
    simp [putW, hl, List.map_take, List.map_drop, List.take_of_length_le]
    rw [List.take_of_length_le (by simp; omega)]
/-- The places of a rule, as the reference asks for them. -/
theorem risPlace_c (r : Rule) (w : List Int) (p : Int) (h : r.small) (hf : -1 ≤ r.frm) (hw : w.length ≤ 1000) : CallP Try.prog 218 [ruleV r, ints w, iv p] (bv (placeB r w p)) := by
  refine C218 (by simp) ?_
  simp [A218]
  refine CondK.intro (fun h1 => ?_) (fun h1 => ?_)
  · have hfr : r.frm = -1 := by simp at h1; omega
    try simp 
    try simp 
    repeat' (first
      | (refine CallX.pure (within2_c p 0 w.length) (by simp) (by simp) ?_; try simp )
      | (refine CallK.intro (within2_c p 0 w.length) (by simp) (by simp) ?_; try simp )
      | (refine CallG.intro (fun _ => within2_c p 0 w.length) (by simp) (by simp) ?_; try simp )
      | (refine CallX.pure (rat_c w (p - 1) hw) (by simp) (by simp) ?_; try simp )
      | (refine CallK.intro (rat_c w (p - 1) hw) (by simp) (by simp) ?_; try simp )
      | (refine CallG.intro (fun _ => rat_c w (p - 1) hw) (by simp) (by simp) ?_; try simp )
      | (refine CallX.pure (rat_c w p hw) (by simp) (by simp) ?_; try simp )
      | (refine CallK.intro (rat_c w p hw) (by simp) (by simp) ?_; try simp )
      | (refine CallG.intro (fun _ => rat_c w p hw) (by simp) (by simp) ?_; try simp )
      | (refine CallX.pure (rmay_c r.left (atW w (p - 1)) h.2.1) (by simp) (by simp) ?_; try simp )
      | (refine CallK.intro (rmay_c r.left (atW w (p - 1)) h.2.1) (by simp) (by simp) ?_; try simp )
      | (refine CallG.intro (fun _ => rmay_c r.left (atW w (p - 1)) h.2.1) (by simp) (by simp) ?_; try simp )
      | (refine CallX.pure (rmay_c r.right (atW w p) h.2.2) (by simp) (by simp) ?_; try simp )
      | (refine CallK.intro (rmay_c r.right (atW w p) h.2.2) (by simp) (by simp) ?_; try simp )
      | (refine CallG.intro (fun _ => rmay_c r.right (atW w p) h.2.2) (by simp) (by simp) ?_; try simp )
      | ((with_reducible refine PreK.intro ?_ ?_); (next => (first | omega | (intros; first | omega | (refine ⟨by omega, ?_⟩; repeat (first | assumption | constructor)) | assumption))); intro _; try simp )
      | fail)
    have hl : long r = 0 := by unfold long; rw [if_pos hfr]
    unfold placeB isAt
    rw [hl, hfr]
    by_cases hp : 0 ≤ p
    · have e : ((p.toNat : Nat) : Int) = p := Int.toNat_of_nonneg hp
      simp [e, Bool.and_assoc]
    · simp [hp]
  · have hfr : r.frm ≠ -1 := by simp at h1; omega
    have hl : long r = 1 := by unfold long; rw [if_neg hfr]
    try simp 
    refine PreK.intro (by omega) fun _ => ?_
    try simp 
    refine CallK.intro (by simpa using within2_c p 0 (w.length - 1)) (by simp) (by simp) ?_
    try simp 
    by_cases hp : 0 ≤ p ∧ p ≤ w.length - 1
    · obtain ⟨n, rfl⟩ := Int.eq_ofNat_of_zero_le hp.1
      have hn : n < w.length := by omega
      have hn1 : (n : Int) ≤ w.length - 1 := hp.2
      simp [hn, hn1]
      try simp 
      repeat' (first
        | (refine CallX.pure (rat_c w (n - 1) hw) (by simp) (by simp) ?_; try simp )
        | (refine CallK.intro (rat_c w (n - 1) hw) (by simp) (by simp) ?_; try simp )
        | (refine CallG.intro (fun _ => rat_c w (n - 1) hw) (by simp) (by simp) ?_; try simp )
        | (refine CallX.pure (rat_c w (n + 1) hw) (by simp) (by simp) ?_; try simp )
        | (refine CallK.intro (rat_c w (n + 1) hw) (by simp) (by simp) ?_; try simp )
        | (refine CallG.intro (fun _ => rat_c w (n + 1) hw) (by simp) (by simp) ?_; try simp )
        | (refine CallX.pure (rmay_c r.left (atW w ((n : Int) - 1)) h.2.1) (by simp) (by simp) ?_; try simp )
        | (refine CallK.intro (rmay_c r.left (atW w ((n : Int) - 1)) h.2.1) (by simp) (by simp) ?_; try simp )
        | (refine CallG.intro (fun _ => rmay_c r.left (atW w ((n : Int) - 1)) h.2.1) (by simp) (by simp) ?_; try simp )
        | (refine CallX.pure (rmay_c r.right (atW w ((n : Int) + 1)) h.2.2) (by simp) (by simp) ?_; try simp )
        | (refine CallK.intro (rmay_c r.right (atW w ((n : Int) + 1)) h.2.2) (by simp) (by simp) ?_; try simp )
        | (refine CallG.intro (fun _ => rmay_c r.right (atW w ((n : Int) + 1)) h.2.2) (by simp) (by simp) ?_; try simp )
        | ((with_reducible refine PreK.intro ?_ ?_); (next => (first | omega | (intros; first | omega | (refine ⟨by omega, ?_⟩; repeat (first | assumption | constructor)) | assumption))); intro _; try simp )
        | fail)
      unfold placeB isAt
      rw [hl]
      have e3 : decide ((n : Int) + 1 ≤ (w.length : Int)) = true := by simp; omega
      have e4 : decide ((0 : Int) ≤ (n : Int)) = true := by simp
      have e5 : decide (r.frm = -1) = false := by simp [hfr]
      rw [e3, e4, e5]
      simp
    · have e : (decide (0 ≤ p) && decide (p ≤ (w.length : Int) - 1)) = false := by
        by_cases h0 : 0 ≤ p
        · have : ¬ p ≤ (w.length : Int) - 1 := fun h1 => hp ⟨h0, h1⟩
          simp [this]
        · simp [h0]
      have hpl : placeB r w p = false := by
        unfold placeB
        rw [hl]
        by_cases h0 : 0 ≤ p
        · have : ¬ p + 1 ≤ (w.length : Int) := fun h1 => hp ⟨h0, by omega⟩
          simp [this]
        · simp [h0]
      rw [e, hpl]
      by_cases h0 : 0 ≤ p
      · have hge : w.length ≤ p.toNat := by have : ¬ p ≤ (w.length : Int) - 1 := fun h1 => hp ⟨h0, h1⟩; omega
        have hn := nth_ge iv w hge
        try simp [hn]
        repeat' (first
          | (refine CallX.pure (rat_c w (p - 1) hw) (by simp) (by simp) ?_; try simp [hn])
          | (refine CallK.intro (rat_c w (p - 1) hw) (by simp) (by simp) ?_; try simp [hn])
          | (refine CallG.intro (fun _ => rat_c w (p - 1) hw) (by simp) (by simp) ?_; try simp [hn])
          | (refine CallX.pure (rat_c w (p + 1) hw) (by simp) (by simp) ?_; try simp [hn])
          | (refine CallK.intro (rat_c w (p + 1) hw) (by simp) (by simp) ?_; try simp [hn])
          | (refine CallG.intro (fun _ => rat_c w (p + 1) hw) (by simp) (by simp) ?_; try simp [hn])
          | (refine CallX.pure (rmay_c r.left (atW w (p - 1)) h.2.1) (by simp) (by simp) ?_; try simp [hn])
          | (refine CallK.intro (rmay_c r.left (atW w (p - 1)) h.2.1) (by simp) (by simp) ?_; try simp [hn])
          | (refine CallG.intro (fun _ => rmay_c r.left (atW w (p - 1)) h.2.1) (by simp) (by simp) ?_; try simp [hn])
          | (refine CallX.pure (rmay_c r.right (atW w (p + 1)) h.2.2) (by simp) (by simp) ?_; try simp [hn])
          | (refine CallK.intro (rmay_c r.right (atW w (p + 1)) h.2.2) (by simp) (by simp) ?_; try simp [hn])
          | (refine CallG.intro (fun _ => rmay_c r.right (atW w (p + 1)) h.2.2) (by simp) (by simp) ?_; try simp [hn])
          | ((with_reducible refine PreK.intro ?_ ?_); (next => (first | omega | (intros; first | omega | (refine ⟨by omega, ?_⟩; repeat (first | assumption | constructor)) | assumption))); intro _; try simp [hn])
          | fail)
      · have hz : p.toNat = 0 := by omega
        cases w with
        | nil =>
          have hn : nth [] 0 = .junk := rfl
          try simp [hz, hn]
          repeat' (first
            | (refine CallX.pure (rat_c [] (p - 1) hw) (by simp) (by simp) ?_; try simp [hz, hn])
            | (refine CallK.intro (rat_c [] (p - 1) hw) (by simp) (by simp) ?_; try simp [hz, hn])
            | (refine CallG.intro (fun _ => rat_c [] (p - 1) hw) (by simp) (by simp) ?_; try simp [hz, hn])
            | (refine CallX.pure (rat_c [] (p + 1) hw) (by simp) (by simp) ?_; try simp [hz, hn])
            | (refine CallK.intro (rat_c [] (p + 1) hw) (by simp) (by simp) ?_; try simp [hz, hn])
            | (refine CallG.intro (fun _ => rat_c [] (p + 1) hw) (by simp) (by simp) ?_; try simp [hz, hn])
            | (refine CallX.pure (rmay_c r.left (atW [] (p - 1)) h.2.1) (by simp) (by simp) ?_; try simp [hz, hn])
            | (refine CallK.intro (rmay_c r.left (atW [] (p - 1)) h.2.1) (by simp) (by simp) ?_; try simp [hz, hn])
            | (refine CallG.intro (fun _ => rmay_c r.left (atW [] (p - 1)) h.2.1) (by simp) (by simp) ?_; try simp [hz, hn])
            | (refine CallX.pure (rmay_c r.right (atW [] (p + 1)) h.2.2) (by simp) (by simp) ?_; try simp [hz, hn])
            | (refine CallK.intro (rmay_c r.right (atW [] (p + 1)) h.2.2) (by simp) (by simp) ?_; try simp [hz, hn])
            | (refine CallG.intro (fun _ => rmay_c r.right (atW [] (p + 1)) h.2.2) (by simp) (by simp) ?_; try simp [hz, hn])
            | ((with_reducible refine PreK.intro ?_ ?_); (next => (first | omega | (intros; first | omega | (refine ⟨by omega, ?_⟩; repeat (first | assumption | constructor)) | assumption))); intro _; try simp [hz, hn])
            | fail)
        | cons x w =>
          try simp [hz]
          repeat' (first
            | (refine CallX.pure (rat_c (x :: w) (p - 1) hw) (by simp) (by simp) ?_; try simp [hz])
            | (refine CallK.intro (rat_c (x :: w) (p - 1) hw) (by simp) (by simp) ?_; try simp [hz])
            | (refine CallG.intro (fun _ => rat_c (x :: w) (p - 1) hw) (by simp) (by simp) ?_; try simp [hz])
            | (refine CallX.pure (rat_c (x :: w) (p + 1) hw) (by simp) (by simp) ?_; try simp [hz])
            | (refine CallK.intro (rat_c (x :: w) (p + 1) hw) (by simp) (by simp) ?_; try simp [hz])
            | (refine CallG.intro (fun _ => rat_c (x :: w) (p + 1) hw) (by simp) (by simp) ?_; try simp [hz])
            | (refine CallX.pure (rmay_c r.left (atW (x :: w) (p - 1)) h.2.1) (by simp) (by simp) ?_; try simp [hz])
            | (refine CallK.intro (rmay_c r.left (atW (x :: w) (p - 1)) h.2.1) (by simp) (by simp) ?_; try simp [hz])
            | (refine CallG.intro (fun _ => rmay_c r.left (atW (x :: w) (p - 1)) h.2.1) (by simp) (by simp) ?_; try simp [hz])
            | (refine CallX.pure (rmay_c r.right (atW (x :: w) (p + 1)) h.2.2) (by simp) (by simp) ?_; try simp [hz])
            | (refine CallK.intro (rmay_c r.right (atW (x :: w) (p + 1)) h.2.2) (by simp) (by simp) ?_; try simp [hz])
            | (refine CallG.intro (fun _ => rmay_c r.right (atW (x :: w) (p + 1)) h.2.2) (by simp) (by simp) ?_; try simp [hz])
            | ((with_reducible refine PreK.intro ?_ ?_); (next => (first | omega | (intros; first | omega | (refine ⟨by omega, ?_⟩; repeat (first | assumption | constructor)) | assumption))); intro _; try simp [hz])
            | fail)
end Go.Proofs.Ytaooenmkofjafaa
end

section
/- Contracts: the reference's checks of rules, and its Apply. -/
namespace Go.Proofs.Ytaooenmkofjafaa
open Go.Abs Go
set_option maxRecDepth 20000
set_option maxHeartbeats 2000000
attribute [local irreducible] PreK CondK CallK CallG CallX LoopK

theorem isNeighbor_eq (n : Int) : isNeighbor n = (decide (-1 ≤ n) && decide (n ≤ 5)) := by
  unfold isNeighbor isSound
  by_cases h : n = -1
  · subst h; rfl
  · have : decide (0 ≤ n) = decide (-1 ≤ n) := by congr 1; simp only [eq_iff_iff]; omega
    simp [h, this]
theorem rIsSet_c (l : List Int) (hl : l.length ≤ 1000) : CallP Try.prog 214 [ints l, iv (-1), iv 5] (bv (setF none l)) := by
  refine C214 (by simp) ?_
  generalize hR : setF none l = R
  simp [A214]
  refine LoopK.by (fun i : Nat => ⟨[(7, iv i), (0, ints l), (1, iv (-1)), (2, iv 5)], []⟩) (fun i => l.length - i) (fun i => i ≤ l.length ∧ setF (prevOf l i) (l.drop i) = R) 0 (by simpa [prevOf] using hR) (by simp) ?_
  intro i Q' ⟨hi, hc⟩ hq he hr
  try simp 
  refine CondK.intro (fun h => ?_) (fun h => ?_)
  · simp at h
    rw [drop_cons l i h, setF_cons] at hc
    have e1 : ((i : Int) - 1).toNat = i - 1 := by omega
    have h1 : i - 1 < l.length := by omega
    simp [h]
    try simp [e1, h1, h]
    repeat' (first
      | (refine CallX.pure (within1_c (el l i) (-1) 5) (by simp) (by simp) ?_; try simp [e1, h1, h])
      | (refine CallK.intro (within1_c (el l i) (-1) 5) (by simp) (by simp) ?_; try simp [e1, h1, h])
      | (refine CallG.intro (fun _ => within1_c (el l i) (-1) 5) (by simp) (by simp) ?_; try simp [e1, h1, h])
      | ((with_reducible refine PreK.intro ?_ ?_); (next => (first | omega | (intros; first | omega | (refine ⟨by omega, ?_⟩; repeat (first | assumption | constructor)) | assumption))); intro _; try simp [e1, h1, h])
      | fail)
    have hprev : lessO (prevOf l i) (el l i) = (!(decide (0 < i) && decide (el l i ≤ el l (i - 1)))) := by
      unfold prevOf
      by_cases h0 : i = 0
      · simp [h0, lessO]
      · simp [h0, lessO, show 0 < i by omega]
        by_cases h6 : el l (i - 1) < el l i
        · simp [h6]
        · simp [h6]; omega
    rw [hprev] at hc
    have hnb : (!decide (-1 ≤ el l i) || !decide (el l i ≤ 5)) = !isNeighbor (el l i) := by rw [isNeighbor_eq]; simp
    rw [hnb]
    refine CondK.intro (fun h4 => ?_) (fun h4 => ?_)
    · have : (isNeighbor (el l i) && !(decide (0 < i) && decide (el l i ≤ el l (i - 1)))) = false := by
        revert h4; cases isNeighbor (el l i) <;> cases decide (0 < i) <;> cases decide (el l i ≤ el l (i - 1)) <;> simp
      rw [this] at hc
      simp at hc
      try simp 
      apply hr
      simp [hc]
    · have : (isNeighbor (el l i) && !(decide (0 < i) && decide (el l i ≤ el l (i - 1)))) = true := by
        revert h4; cases isNeighbor (el l i) <;> cases decide (0 < i) <;> cases decide (el l i ≤ el l (i - 1)) <;> simp
      rw [this] at hc
      simp at hc
      try simp 
      refine PreK.intro (by omega) fun _ => ?_
      try simp 
      exact hq (i + 1) _ ⟨by omega, by simpa [prevOf] using hc⟩ (by omega) (by simp)
  · simp at h
    rw [List.drop_eq_nil_of_le (by omega)] at hc
    simp [setF] at hc
    try simp 
    apply he
    simp [hc]
theorem rValidate_c (r : Rule) (h : r.small) : CallP Try.prog 165 [ruleV r] (iv (ruleErr r)) := by
  refine C165 (by simp) ?_
  generalize hR : ruleErr r = R
  unfold ruleErr at hR
  simp [A165]
  try simp 
  repeat' (first
    | (refine CallX.pure (within2_c r.frm (-1) 5) (by simp) (by simp) ?_; try simp )
    | (refine CallK.intro (within2_c r.frm (-1) 5) (by simp) (by simp) ?_; try simp )
    | (refine CallG.intro (fun _ => within2_c r.frm (-1) 5) (by simp) (by simp) ?_; try simp )
    | ((with_reducible refine PreK.intro ?_ ?_); (next => (first | omega | (intros; first | omega | (refine ⟨by omega, ?_⟩; repeat (first | assumption | constructor)) | assumption))); intro _; try simp )
    | fail)
  have hnb : (!decide (-1 ≤ r.frm) || !decide (r.frm ≤ 5)) = !isNeighbor r.frm := by rw [isNeighbor_eq]; simp
  rw [hnb]
  refine CondK.intro (fun h1 => ?_) (fun h1 => ?_)
  · simp at h1
    simp [h1] at hR
    simp [hR]
  · simp at h1
    simp only [h1, Bool.not_true, Bool.false_eq_true, if_false] at hR
    try simp 
    refine CondK.intro (fun h4 => ?_) (fun h4 => ?_)
    · simp at h4
      rw [if_pos (by omega)] at hR
      simp [hR]
    · simp at h4
      rw [if_neg (by omega)] at hR
      try simp 
      try simp 
      repeat' (first
        | (refine CallX.pure (isWord_c r.to h.1) (by simp) (by simp) ?_; try simp )
        | (refine CallK.intro (isWord_c r.to h.1) (by simp) (by simp) ?_; try simp )
        | (refine CallG.intro (fun _ => isWord_c r.to h.1) (by simp) (by simp) ?_; try simp )
        | (refine CallX.pure (rIsSet_c r.left h.2.1) (by simp) (by simp) ?_; try simp )
        | (refine CallK.intro (rIsSet_c r.left h.2.1) (by simp) (by simp) ?_; try simp )
        | (refine CallG.intro (fun _ => rIsSet_c r.left h.2.1) (by simp) (by simp) ?_; try simp )
        | (refine CallX.pure (rIsSet_c r.right h.2.2) (by simp) (by simp) ?_; try simp )
        | (refine CallK.intro (rIsSet_c r.right h.2.2) (by simp) (by simp) ?_; try simp )
        | (refine CallG.intro (fun _ => rIsSet_c r.right h.2.2) (by simp) (by simp) ?_; try simp )
        | ((with_reducible refine PreK.intro ?_ ?_); (next => (first | omega | (intros; first | omega | (refine ⟨by omega, ?_⟩; repeat (first | assumption | constructor)) | assumption))); intro _; try simp )
        | fail)
      refine CondK.intro (fun h5 => ?_) (fun h5 => ?_)
      · rw [if_pos (by simpa using h5)] at hR
        simp [hR]
      · rw [if_neg (by simpa using h5)] at hR
        have hneg : decide (r.frm < 0) = decide (r.frm = -1) := by
          rw [isNeighbor_eq] at h1
          simp at h1
          congr 1; simp only [eq_iff_iff]; omega
        obtain ⟨frm, to, left, right⟩ := r
        simp only at *
        match to, h4 with
        | [], _ =>
          try simp 
          repeat' (first
            | ((with_reducible refine PreK.intro ?_ ?_); (next => (first | omega | (intros; first | omega | (refine ⟨by omega, ?_⟩; repeat (first | assumption | constructor)) | assumption))); intro _; try simp )
            | fail)
          rw [hneg]
          refine CondK.intro (fun h6 => ?_) (fun h6 => ?_)
          · simp at h6
            simp [h6] at hR
            simp [hR]
          · simp at h6
            simp [h6] at hR
            simp [hR]
        | [a], _ =>
          try simp 
          repeat' (first
            | ((with_reducible refine PreK.intro ?_ ?_); (next => (first | omega | (intros; first | omega | (refine ⟨by omega, ?_⟩; repeat (first | assumption | constructor)) | assumption))); intro _; try simp )
            | fail)
          refine CondK.intro (fun h6 => ?_) (fun h6 => ?_)
          · simp at h6
            simp [h6] at hR
            simp [hR]
          · simp at h6
            simp [h6] at hR
            simp [hR]
        | [a, b], _ =>
          try simp 
          repeat' (first
            | ((with_reducible refine PreK.intro ?_ ?_); (next => (first | omega | (intros; first | omega | (refine ⟨by omega, ?_⟩; repeat (first | assumption | constructor)) | assumption))); intro _; try simp )
            | fail)
          refine CondK.intro (fun h6 => ?_) (fun h6 => ?_)
          · simp at h6
          · simp at hR
            simp [hR]
theorem rasked_c (r : Rule) (w : List Int) (h : r.small) (hw : w.length ≤ 1000) : CallP Try.prog 217 [ruleV r, ints w] (iv (wordedErr r w)) := by
  refine C217 (by simp) ?_
  generalize hR : wordedErr r w = R
  unfold wordedErr at hR
  simp [A217]
  try simp 
  repeat' (first
    | (refine CallX.pure (rValidate_c r h) (by simp) (by simp) ?_; try simp )
    | (refine CallK.intro (rValidate_c r h) (by simp) (by simp) ?_; try simp )
    | (refine CallG.intro (fun _ => rValidate_c r h) (by simp) (by simp) ?_; try simp )
    | ((with_reducible refine PreK.intro ?_ ?_); (next => (first | omega | (intros; first | omega | (refine ⟨by omega, ?_⟩; repeat (first | assumption | constructor)) | assumption))); intro _; try simp )
    | fail)
  refine CondK.intro (fun h1 => ?_) (fun h1 => ?_)
  · simp at h1
    simp [h1] at hR
    simp [hR]
  · simp at h1
    simp [h1] at hR
    try simp 
    try simp 
    repeat' (first
      | (refine CallX.pure (rValidateWord_c w hw) (by simp) (by simp) ?_; try simp )
      | (refine CallK.intro (rValidateWord_c w hw) (by simp) (by simp) ?_; try simp )
      | (refine CallG.intro (fun _ => rValidateWord_c w hw) (by simp) (by simp) ?_; try simp )
      | ((with_reducible refine PreK.intro ?_ ?_); (next => (first | omega | (intros; first | omega | (refine ⟨by omega, ?_⟩; repeat (first | assumption | constructor)) | assumption))); intro _; try simp )
      | fail)
    simp [hR]
theorem ruleErr_frm {r : Rule} (h : ruleErr r = 0) : isNeighbor r.frm = true := by
  unfold ruleErr at h
  by_cases h0 : (!isNeighbor r.frm) = true
  · rw [if_pos h0] at h; cases h
  · simpa using h0
theorem rApply_c (r : Rule) (w : List Int) (p : Int) (h : r.small) (hw : w.length ≤ 1000) : CallP Try.prog 177 [ruleV r, ints w, iv p] (.tup [ints (applyM r w p).1, iv (applyM r w p).2]) := by
  refine C177 (by simp) ?_
  simp [A177]
  try simp 
  repeat' (first
    | (refine CallX.pure (rasked_c r w h hw) (by simp) (by simp) ?_; try simp )
    | (refine CallK.intro (rasked_c r w h hw) (by simp) (by simp) ?_; try simp )
    | (refine CallG.intro (fun _ => rasked_c r w h hw) (by simp) (by simp) ?_; try simp )
    | ((with_reducible refine PreK.intro ?_ ?_); (next => (first | omega | (intros; first | omega | (refine ⟨by omega, ?_⟩; repeat (first | assumption | constructor)) | assumption))); intro _; try simp )
    | fail)
  refine CondK.intro (fun h1 => ?_) (fun h1 => ?_)
  · simp at h1
    simp [applyM, h1]
  · simp at h1
    obtain ⟨h2, h3⟩ := wordedErr_zero h1
    obtain ⟨h4, h5⟩ := wordErr_zero h3
    have hf : -1 ≤ r.frm := by have := ruleErr_frm h2; simp [isNeighbor, isSound] at this; omega
    try simp 
    repeat' (first
      | (refine CallX.pure (risPlace_c r w p h hf hw) (by simp) (by simp) ?_; try simp )
      | (refine CallK.intro (risPlace_c r w p h hf hw) (by simp) (by simp) ?_; try simp )
      | (refine CallG.intro (fun _ => risPlace_c r w p h hf hw) (by simp) (by simp) ?_; try simp )
      | ((with_reducible refine PreK.intro ?_ ?_); (next => (first | omega | (intros; first | omega | (refine ⟨by omega, ?_⟩; repeat (first | assumption | constructor)) | assumption))); intro _; try simp )
      | fail)
    refine CondK.intro (fun h6 => ?_) (fun h6 => ?_)
    · simp at h6
      simp [applyM, h1, h6]
    · simp at h6
      have h6' := h6
      simp only [placeB, Bool.and_eq_true, decide_eq_true_eq] at h6'
      have hl := long_cases r
      obtain ⟨n, rfl⟩ := Int.eq_ofNat_of_zero_le h6'.1
      have ht := ruleErr_to h2
      have e1 : n + (long r).toNat ≤ w.length := by omega
      have e2 := rput_c r w n e1 (by omega) (by omega) (by omega)
      try simp 
      repeat' (first
        | (refine CallX.pure (e2) (by simp) (by simp) ?_; try simp )
        | (refine CallK.intro (e2) (by simp) (by simp) ?_; try simp )
        | (refine CallG.intro (fun _ => e2) (by simp) (by simp) ?_; try simp )
        | (refine CallX.pure (rtold_c (putW r w n)) (by simp) (by simp) ?_; try simp )
        | (refine CallK.intro (rtold_c (putW r w n)) (by simp) (by simp) ?_; try simp )
        | (refine CallG.intro (fun _ => rtold_c (putW r w n)) (by simp) (by simp) ?_; try simp )
        | ((with_reducible refine PreK.intro ?_ ?_); (next => (first | omega | (intros; first | omega | (refine ⟨by omega, ?_⟩; repeat (first | assumption | constructor)) | assumption))); intro _; try simp )
        | fail)
      by_cases h7 : 8 < (putW r w n).length
      · simp [applyM, h1, h6, h7, shortErr]
      · simp [applyM, h1, h6, h7, shortErr]
end Go.Proofs.Ytaooenmkofjafaa
end

section
/- Contracts: systems and their steps. -/
namespace Go.Proofs.Ytaooenmkofjafaa
open Go.Abs Go
set_option maxRecDepth 20000
set_option maxHeartbeats 2000000
attribute [local irreducible] PreK CondK CallK CallG CallX LoopK

def Sys.small (s : List Rule) : Prop := s.length ≤ 1000 ∧ ∀ r ∈ s, r.small
theorem Sys.small.el {s : List Rule} (h : Sys.small s) {i : Nat} (hi : i < s.length) : (el s i).small := by
  rw [el_eq s i hi]; exact h.2 _ (List.getElem_mem hi)
@[simp] def moveV (x : Move) : AV := .agg [iv x.step.rule, iv x.step.place, ints x.word]
@[simp] def movesV (l : List Move) : AV := .seq 3 (l.map moveV) false
@[simp] theorem nth_move (l : List Move) (k : Nat) (h : k < l.length) : nth (l.map moveV) k = moveV (el l k) := nth_map moveV l k h
theorem Validate_c (s : List Rule) (h : Sys.small s) : CallP Try.prog 83 [rulesV s] (iv (sysErr s)) := by
  refine C83 (by simp) ?_
  generalize hR : sysErr s = R
  unfold sysErr at hR
  have hl := h.1
  simp [A83]
  refine CondK.intro (fun h1 => ?_) (fun h1 => ?_)
  · simp at h1
    rw [if_pos (by omega)] at hR
    simp [hR]
  · simp at h1
    rw [if_neg (by omega)] at hR
    try simp 
    refine LoopK.by (fun i : Nat => ⟨[(11, iv i), (10, iv s.length), (9, rulesV s)], []⟩) (fun i => s.length - i) (fun i => i ≤ s.length ∧ firstErr (s.drop i) = R) 0 (by simpa using hR) (by simp) ?_
    intro i Q' ⟨hi, hc⟩ hq he hr
    try simp 
    refine CondK.intro (fun h2 => ?_) (fun h2 => ?_)
    · simp at h2
      rw [drop_cons s i h2, firstErr] at hc
      simp [h2]
      try simp 
      repeat' (first
        | (refine CallX.pure (validate_s (h.el h2)) (by simp) (by simp) ?_; try simp )
        | (refine CallK.intro (validate_s (h.el h2)) (by simp) (by simp) ?_; try simp )
        | (refine CallG.intro (fun _ => validate_s (h.el h2)) (by simp) (by simp) ?_; try simp )
        | ((with_reducible refine PreK.intro ?_ ?_); (next => (first | omega | (intros; first | omega | (refine ⟨by omega, ?_⟩; repeat (first | assumption | constructor)) | assumption))); intro _; try simp )
        | fail)
      refine CondK.intro (fun h3 => ?_) (fun h3 => ?_)
      · simp at h3
        simp [h3] at hc
        try simp 
        apply hr
        simp [hc]
      · simp at h3
        simp [h3] at hc
        try simp 
        refine PreK.intro (by omega) fun _ => ?_
        try simp 
        exact hq (i + 1) _ ⟨by omega, hc⟩ (by omega) (by simp)
    · simp at h2
      rw [List.drop_eq_nil_of_le (by omega)] at hc
      simp [firstErr] at hc
      try simp 
      apply he
      simp [hc]
theorem rsValidate_c (s : List Rule) (h : Sys.small s) : CallP Try.prog 84 [rulesV s] (iv (sysErr s)) := by
  refine C84 (by simp) ?_
  generalize hR : sysErr s = R
  unfold sysErr at hR
  have hl := h.1
  simp [A84]
  refine CondK.intro (fun h1 => ?_) (fun h1 => ?_)
  · simp at h1
    rw [if_pos (by omega)] at hR
    simp [hR]
  · simp at h1
    rw [if_neg (by omega)] at hR
    try simp 
    refine LoopK.by (fun i : Nat => ⟨[(3, iv i), (0, rulesV s)], []⟩) (fun i => s.length - i) (fun i => i ≤ s.length ∧ firstErr (s.drop i) = R) 0 (by simpa using hR) (by simp) ?_
    intro i Q' ⟨hi, hc⟩ hq he hr
    try simp 
    refine CondK.intro (fun h2 => ?_) (fun h2 => ?_)
    · simp at h2
      rw [drop_cons s i h2, firstErr] at hc
      simp [h2]
      try simp 
      repeat' (first
        | (refine CallX.pure (rValidate_c (el s i) (h.el h2)) (by simp) (by simp) ?_; try simp )
        | (refine CallK.intro (rValidate_c (el s i) (h.el h2)) (by simp) (by simp) ?_; try simp )
        | (refine CallG.intro (fun _ => rValidate_c (el s i) (h.el h2)) (by simp) (by simp) ?_; try simp )
        | ((with_reducible refine PreK.intro ?_ ?_); (next => (first | omega | (intros; first | omega | (refine ⟨by omega, ?_⟩; repeat (first | assumption | constructor)) | assumption))); intro _; try simp )
        | fail)
      refine CondK.intro (fun h3 => ?_) (fun h3 => ?_)
      · simp at h3
        simp [h3] at hc
        try simp 
        apply hr
        simp [hc]
      · simp at h3
        simp [h3] at hc
        try simp 
        refine PreK.intro (by omega) fun _ => ?_
        try simp 
        exact hq (i + 1) _ ⟨by omega, hc⟩ (by omega) (by simp)
    · simp at h2
      rw [List.drop_eq_nil_of_le (by omega)] at hc
      simp [firstErr] at hc
      try simp 
      apply he
      simp [hc]
def firstW : List (List Int) → Int
  | [] => 0
  | w :: l => if wordErr w ≠ 0 then wordErr w else firstW l
def checkErr (s : List Rule) (ws : List (List Int)) : Int := if sysErr s ≠ 0 then sysErr s else firstW ws
theorem check_c (s : List Rule) (ws : List (List Int)) (h : Sys.small s) (hn : ws.length ≤ 1000) (hw : ∀ w ∈ ws, w.length ≤ 1000) : CallP Try.prog 140 [rulesV s, .seq 1 (ws.map ints) false] (iv (checkErr s ws)) := by
  refine C140 (by simp) ?_
  generalize hR : checkErr s ws = R
  unfold checkErr at hR
  simp [A140]
  try simp 
  repeat' (first
    | (refine CallX.pure (Validate_c s h) (by simp) (by simp) ?_; try simp )
    | (refine CallK.intro (Validate_c s h) (by simp) (by simp) ?_; try simp )
    | (refine CallG.intro (fun _ => Validate_c s h) (by simp) (by simp) ?_; try simp )
    | ((with_reducible refine PreK.intro ?_ ?_); (next => (first | omega | (intros; first | omega | (refine ⟨by omega, ?_⟩; repeat (first | assumption | constructor)) | assumption))); intro _; try simp )
    | fail)
  refine CondK.intro (fun h1 => ?_) (fun h1 => ?_)
  · simp at h1
    simp [h1] at hR
    simp [hR]
  · simp at h1
    simp [h1] at hR
    try simp 
    refine LoopK.by (fun i : Nat => ⟨[(16, iv i), (15, iv ws.length), (14, .seq 1 (ws.map ints) false)], []⟩) (fun i => ws.length - i) (fun i => i ≤ ws.length ∧ firstW (ws.drop i) = R) 0 (by simpa using hR) (by simp) ?_
    intro i Q' ⟨hi, hc⟩ hq he hr
    try simp 
    refine CondK.intro (fun h2 => ?_) (fun h2 => ?_)
    · simp at h2
      rw [drop_cons ws i h2, firstW] at hc
      have hwi : (el ws i).length ≤ big := by
        have := hw (el ws i) (by rw [el_eq ws i h2]; exact List.getElem_mem h2)
        simp only [big]; omega
      simp [h2]
      try simp 
      repeat' (first
        | (refine CallX.pure (validateWord_c (el ws i) hwi) (by simp) (by simp) ?_; try simp )
        | (refine CallK.intro (validateWord_c (el ws i) hwi) (by simp) (by simp) ?_; try simp )
        | (refine CallG.intro (fun _ => validateWord_c (el ws i) hwi) (by simp) (by simp) ?_; try simp )
        | ((with_reducible refine PreK.intro ?_ ?_); (next => (first | omega | (intros; first | omega | (refine ⟨by omega, ?_⟩; repeat (first | assumption | constructor)) | assumption))); intro _; try simp )
        | fail)
      refine CondK.intro (fun h3 => ?_) (fun h3 => ?_)
      · simp at h3
        simp [h3] at hc
        try simp 
        apply hr
        simp [hc]
      · simp at h3
        simp [h3] at hc
        try simp 
        refine PreK.intro (by omega) fun _ => ?_
        try simp 
        exact hq (i + 1) _ ⟨by omega, hc⟩ (by omega) (by simp)
    · simp at h2
      rw [List.drop_eq_nil_of_le (by omega)] at hc
      simp [firstW] at hc
      try simp 
      apply he
      simp [hc]
theorem check_one (s : List Rule) (w : List Int) : checkErr s [w] = swErr s w := by
  unfold checkErr swErr
  by_cases h : sysErr s = 0
  · by_cases h2 : wordErr w = 0 <;> simp [h, h2, firstW]
  · simp [h]
theorem rworded_c (s : List Rule) (w v : List Int) (h : Sys.small s) (hw : w.length ≤ 1000) (hv : v.length ≤ 1000) : CallP Try.prog 162 [rulesV s, ints w, ints v] (iv (checkErr s [w, v])) := by
  refine C162 (by simp) ?_
  generalize hR : checkErr s [w, v] = R
  unfold checkErr at hR
  simp [A162]
  try simp 
  repeat' (first
    | (refine CallX.pure (rsValidate_c s h) (by simp) (by simp) ?_; try simp )
    | (refine CallK.intro (rsValidate_c s h) (by simp) (by simp) ?_; try simp )
    | (refine CallG.intro (fun _ => rsValidate_c s h) (by simp) (by simp) ?_; try simp )
    | ((with_reducible refine PreK.intro ?_ ?_); (next => (first | omega | (intros; first | omega | (refine ⟨by omega, ?_⟩; repeat (first | assumption | constructor)) | assumption))); intro _; try simp )
    | fail)
  refine CondK.intro (fun h1 => ?_) (fun h1 => ?_)
  · simp at h1
    simp [h1] at hR
    simp [hR]
  · simp at h1
    simp [h1] at hR
    try simp 
    try simp 
    repeat' (first
      | (refine CallX.pure (rValidateWord_c w hw) (by simp) (by simp) ?_; try simp )
      | (refine CallK.intro (rValidateWord_c w hw) (by simp) (by simp) ?_; try simp )
      | (refine CallG.intro (fun _ => rValidateWord_c w hw) (by simp) (by simp) ?_; try simp )
      | ((with_reducible refine PreK.intro ?_ ?_); (next => (first | omega | (intros; first | omega | (refine ⟨by omega, ?_⟩; repeat (first | assumption | constructor)) | assumption))); intro _; try simp )
      | fail)
    refine CondK.intro (fun h2 => ?_) (fun h2 => ?_)
    · simp at h2
      simp [h2, firstW] at hR
      simp [hR]
    · simp at h2
      simp [h2, firstW] at hR
      try simp 
      try simp 
      repeat' (first
        | (refine CallX.pure (rValidateWord_c v hv) (by simp) (by simp) ?_; try simp )
        | (refine CallK.intro (rValidateWord_c v hv) (by simp) (by simp) ?_; try simp )
        | (refine CallG.intro (fun _ => rValidateWord_c v hv) (by simp) (by simp) ?_; try simp )
        | ((with_reducible refine PreK.intro ?_ ?_); (next => (first | omega | (intros; first | omega | (refine ⟨by omega, ?_⟩; repeat (first | assumption | constructor)) | assumption))); intro _; try simp )
        | fail)
      rw [← hR]
      by_cases h3 : wordErr v = 0 <;> simp [h3]
theorem check_nil (s : List Rule) (w : List Int) : checkErr s [w, []] = swErr s w := by
  rw [← check_one]
  unfold checkErr
  by_cases h : sysErr s = 0
  · have : wordErr [] = 0 := by decide
    simp [h, firstW, this]
  · simp [h]
end Go.Proofs.Ytaooenmkofjafaa
end

section
/- Contracts: the steps of a word. -/
namespace Go.Proofs.Ytaooenmkofjafaa
open Go.Abs Go
set_option maxRecDepth 20000
set_option maxHeartbeats 2000000
attribute [local irreducible] PreK CondK CallK CallG CallX LoopK

/-- The steps of a rule at given places. -/
def moveI (r : Rule) (w : List Int) (k : Nat) (p : Int) : List Move := if (applyM r w p).2 = 0 then [⟨⟨k, p⟩, (applyM r w p).1⟩] else []
def movesP (r : Rule) (w : List Int) (k : Nat) : List Int → List Move
  | [] => []
  | p :: l => moveI r w k p ++ movesP r w k l
theorem applyM_not {r : Rule} {w : List Int} {p : Int} (h : wordedErr r w = 0) (hp : placeB r w p = false) : (applyM r w p).2 = 6 := by simp [applyM, h, hp]
theorem moveI_not {r : Rule} {w : List Int} {k : Nat} {p : Int} (h : wordedErr r w = 0) (hp : placeB r w p = false) : moveI r w k p = [] := by simp [moveI, applyM_not h hp]
theorem movesP_places {r : Rule} {w : List Int} {k : Nat} (h : wordedErr r w = 0) : ∀ (n i : Nat), i + n ≤ w.length + 1 - (long r).toNat → movesP r w k (placesF r w i n) = movesR r w k i n
  | 0, i, _ => rfl
  | n + 1, i, hn => by
    have ih := movesP_places (k := k) h n (i + 1) (by omega)
    have hl := long_cases r
    unfold placesF movesR
    by_cases ha : isAt r w i = true
    · rw [if_pos ha, movesP, ih]; rfl
    · rw [if_neg ha, ih]
      have : placeB r w i = false := by
        unfold placeB
        have e : isAt r w ((i : Int).toNat) = false := by simpa using ha
        rw [e]; simp
      have e2 : moveAt r w k i = moveI r w k i := rfl
      rw [e2, moveI_not h this, List.nil_append]
theorem movesR_end {r : Rule} {w : List Int} {k : Nat} (h : wordedErr r w = 0) : ∀ (n i : Nat), w.length + 1 - (long r).toNat ≤ i → movesR r w k i n = []
  | 0, i, _ => rfl
  | n + 1, i, hi => by
    rw [movesR, movesR_end (k := k) h n (i + 1) (by omega)]
    have : placeB r w i = false := by
      unfold placeB
      have hl := long_cases r
      have : ¬ ((i : Int) + long r ≤ w.length) := by omega
      simp [this]
    have e2 : moveAt r w k i = moveI r w k i := rfl
    rw [e2, moveI_not h this]
    rfl
theorem movesR_add {r : Rule} {w : List Int} {k : Nat} : ∀ (n m i : Nat), movesR r w k i (n + m) = movesR r w k i n ++ movesR r w k (i + n) m
  | 0, m, i => by simp [movesR]
  | n + 1, m, i => by
    rw [show n + 1 + m = (n + m) + 1 by omega, movesR, movesR, movesR_add n m (i + 1), List.append_assoc, show i + 1 + n = i + (n + 1) by omega]
theorem movesP_all {r : Rule} {w : List Int} {k : Nat} (h : wordedErr r w = 0) : movesP r w k (placesM r w) = movesR r w k 0 (w.length + 1) := by
  have hl := long_cases r
  have e : w.length + 1 = (w.length + 1 - (long r).toNat) + (long r).toNat := by omega
  have e1 := movesR_end (k := k) h (long r).toNat (0 + (w.length + 1 - (long r).toNat)) (by omega)
  rw [e, movesR_add, e1, List.append_nil]
  exact movesP_places h _ 0 (by omega)
theorem moveI_len (r : Rule) (w : List Int) (k : Nat) (p : Int) : (moveI r w k p).length ≤ 1 := by unfold moveI; split <;> simp
theorem firstErr_el {s : List Rule} (h : firstErr s = 0) : ∀ r ∈ s, ruleErr r = 0 := by
  induction s with
  | nil => intro r hr; cases hr
  | cons r0 s ih =>
    unfold firstErr at h
    by_cases h0 : ruleErr r0 = 0
    · simp [h0] at h
      intro r hr
      rcases List.mem_cons.1 hr with rfl | hr
      · exact h0
      · exact ih h r hr
    · simp [h0] at h
theorem sysErr_zero {s : List Rule} (h : sysErr s = 0) : s.length ≤ 6 ∧ ∀ r ∈ s, ruleErr r = 0 := by
  unfold sysErr at h
  by_cases h1 : 6 < s.length
  · simp [h1] at h
  · simp [h1] at h
    exact ⟨by omega, firstErr_el h⟩
theorem wordedErr_of {r : Rule} {w : List Int} (h : ruleErr r = 0) (hw : wordErr w = 0) : wordedErr r w = 0 := by simp [wordedErr, h, hw]

theorem moves_c (s : List Rule) (w : List Int) (h : Sys.small s) (hs : sysErr s = 0) (hw : wordErr w = 0) : CallP Try.prog 141 [rulesV s, ints w] (movesV (movesM s w)) := by
  refine C141 (by simp) ?_
  generalize hR : movesM s w = R
  unfold movesM at hR
  obtain ⟨hs6, hsr⟩ := sysErr_zero hs
  obtain ⟨hw8, hww⟩ := wordErr_zero hw
  have hw1 : w.length ≤ 1000 := by omega
  simp [A141]
  refine LoopK.by (ι := Nat × Nat × List Move) (fun i => ⟨[(16, iv i.1), (15, iv s.length), (14, rulesV s), (1, ints w), (5, .sl 5 i.2.1 0 i.2.2.length)], [(5, some ⟨3, i.2.2.map moveV, i.2.1, false⟩)]⟩) (fun i => s.length - i.1)
    (fun i => i.1 ≤ s.length ∧ i.2.2.length ≤ 10 * i.1 ∧ i.2.2 ++ movesF w i.1 (s.drop i.1) = R) (0, 1, []) (by simpa using hR) (by simp) ?_
  intro ⟨i, ver, acc⟩ Q' ⟨hi, ha, hc⟩ hq he hr
  dsimp only at hi ha hc
  try simp 
  refine CondK.intro (fun h1 => ?_) (fun h1 => ?_)
  · simp at h1
    have hri : ruleErr (el s i) = 0 := hsr _ (by rw [el_eq s i h1]; exact List.getElem_mem h1)
    have hwi := wordedErr_of hri hw
    have hsm := h.el h1
    rw [drop_cons s i h1, movesF, ← movesP_all hwi] at hc
    have hpl := placesM_len (el s i) w
    have hP : PlacesM (el s i) w = (placesM (el s i) w, 0) := by simp [PlacesM, hwi]
    have hPc : CallP Try.prog 60 [ruleV (el s i), ints w] (.tup [ints (placesM (el s i) w), iv 0]) := by
      have := Places_c (el s i) w hsm hw1
      rwa [hP] at this
    generalize placesM (el s i) w = ps at hc hpl hPc
    simp [h1]
    try simp 
    repeat' (first
      | (refine CallX.pure (hPc) (by simp) (by simp) ?_; try simp )
      | (refine CallK.intro (hPc) (by simp) (by simp) ?_; try simp )
      | (refine CallG.intro (fun _ => hPc) (by simp) (by simp) ?_; try simp )
      | ((with_reducible refine PreK.intro ?_ ?_); (next => (first | omega | (intros; first | omega | (refine ⟨by omega, ?_⟩; repeat (first | assumption | constructor)) | assumption))); intro _; try simp )
      | fail)
    refine LoopK.by (ι := Nat × Nat × List Move) (fun j => ⟨[(29, iv j.1), (28, iv ps.length), (27, ints ps), (6, iv i), (7, .pt 7 1 0 0), (16, iv i), (15, iv s.length), (14, rulesV s), (1, ints w), (5, .sl 5 j.2.1 0 j.2.2.length)],
      [(5, some ⟨3, j.2.2.map moveV, j.2.1, false⟩), (7, some ⟨4, [ruleV (el s i)], 1, true⟩)]⟩) (fun j => ps.length - j.1)
      (fun j => j.1 ≤ ps.length ∧ j.2.2.length ≤ 10 * i + j.1 ∧ j.2.2 ++ (movesP (el s i) w i (ps.drop j.1) ++ movesF w (i + 1) (s.drop (i + 1))) = R) (0, ver, acc) (by simp; exact ⟨ha, hc⟩) (by simp) ?_
    intro ⟨j, ver', acc'⟩ Q'' ⟨hj, ha', hc'⟩ hq' he' hr'
    dsimp only at hj ha' hc'
    try simp 
    refine CondK.intro (fun h2 => ?_) (fun h2 => ?_)
    · simp at h2
      rw [drop_cons ps j h2, movesP] at hc'
      simp [h2]
      try simp 
      repeat' (first
        | (refine CallX.pure (Apply_c (el s i) w (el ps j) hsm hw1) (by simp) (by simp) ?_; try simp )
        | (refine CallK.intro (Apply_c (el s i) w (el ps j) hsm hw1) (by simp) (by simp) ?_; try simp )
        | (refine CallG.intro (fun _ => Apply_c (el s i) w (el ps j) hsm hw1) (by simp) (by simp) ?_; try simp )
        | ((with_reducible refine PreK.intro ?_ ?_); (next => (first | omega | (intros; first | omega | (refine ⟨by omega, ?_⟩; repeat (first | assumption | constructor)) | assumption))); intro _; try simp )
        | fail)
      refine CondK.intro (fun h3 => ?_) (fun h3 => ?_)
      · simp at h3
        have e : moveI (el s i) w i (el ps j) = [⟨⟨i, el ps j⟩, (applyM (el s i) w (el ps j)).1⟩] := by simp [moveI, h3]
        rw [e] at hc'
        try simp 
        repeat' (first
          | ((with_reducible refine PreK.intro ?_ ?_); (next => (first | omega | (intros; first | omega | (refine ⟨by omega, ?_⟩; repeat (first | assumption | constructor)) | assumption))); intro _; try simp )
          | fail)
        exact hq' (j + 1, ver' + 1, acc' ++ [⟨⟨i, el ps j⟩, (applyM (el s i) w (el ps j)).1⟩]) _ ⟨by dsimp only; omega, by simp; omega, by simpa using hc'⟩ (by dsimp only; omega) (by simp)
      · simp at h3
        have e : moveI (el s i) w i (el ps j) = [] := by simp [moveI, h3]
        rw [e] at hc'
        try simp 
        repeat' (first
          | ((with_reducible refine PreK.intro ?_ ?_); (next => (first | omega | (intros; first | omega | (refine ⟨by omega, ?_⟩; repeat (first | assumption | constructor)) | assumption))); intro _; try simp )
          | fail)
        exact hq' (j + 1, ver', acc') _ ⟨by dsimp only; omega, by dsimp only; omega, by simpa using hc'⟩ (by dsimp only; omega) (by simp)
    · simp at h2
      rw [List.drop_eq_nil_of_le (by omega), movesP] at hc'
      try simp 
      apply he'
      try simp 
      repeat' (first
        | ((with_reducible refine PreK.intro ?_ ?_); (next => (first | omega | (intros; first | omega | (refine ⟨by omega, ?_⟩; repeat (first | assumption | constructor)) | assumption))); intro _; try simp )
        | fail)
      exact hq (i + 1, ver', acc') _ ⟨by dsimp only; omega, by dsimp only; omega, by simpa using hc'⟩ (by dsimp only; omega) (by simp)
  · simp at h1
    rw [List.drop_eq_nil_of_le (by omega)] at hc
    simp [movesF] at hc
    try simp 
    apply he
    simp [hc]
def wordsOf (l : List Move) : List (List Int) := l.map (·.word)
@[simp] def wordsV (l : List (List Int)) : AV := .seq 1 (l.map ints) false
theorem rsteps_c (s : List Rule) (w : List Int) (h : Sys.small s) (hs : s.length ≤ 6) (hw : w.length ≤ 8) :
    CallP Try.prog 164 [rulesV s, ints w] (.tup [stepsV ((movesM s w).map (·.step)), wordsV ((movesM s w).map (·.word))]) := by
  refine C164 (by simp) ?_
  generalize hR : movesM s w = R
  unfold movesM at hR
  have hw1 : w.length ≤ 1000 := by omega
  simp [A164]
  refine LoopK.by (ι := Nat × Nat × Nat × List Move) (fun i => ⟨[(8, iv i.1), (0, rulesV s), (1, ints w), (6, .sl 6 i.2.1 0 i.2.2.2.length), (7, .sl 7 i.2.2.1 0 i.2.2.2.length)], [(6, some ⟨2, i.2.2.2.map (fun x => stepV x.step), i.2.1, false⟩), (7, some ⟨1, i.2.2.2.map (fun x => ints x.word), i.2.2.1, false⟩)]⟩) (fun i => s.length - i.1)
    (fun i => i.1 ≤ s.length ∧ i.2.2.2.length ≤ 10 * i.1 ∧ i.2.2.2 ++ movesF w i.1 (s.drop i.1) = R) (0, 1, 1, []) (by simpa using hR) (by simp) ?_
  intro ⟨i, v1, v2, acc⟩ Q' ⟨hi, ha, hc⟩ hq he hr
  dsimp only at hi ha hc
  try simp 
  refine CondK.intro (fun h1 => ?_) (fun h1 => ?_)
  · simp at h1
    have hsm := h.el h1
    rw [drop_cons s i h1, movesF] at hc
    simp [h1]
    refine LoopK.by (ι := Nat × Nat × Nat × List Move) (fun j => ⟨[(9, iv j.1), (8, iv i), (0, rulesV s), (1, ints w), (6, .sl 6 j.2.1 0 j.2.2.2.length), (7, .sl 7 j.2.2.1 0 j.2.2.2.length)], [(6, some ⟨2, j.2.2.2.map (fun x => stepV x.step), j.2.1, false⟩), (7, some ⟨1, j.2.2.2.map (fun x => ints x.word), j.2.2.1, false⟩)]⟩) (fun j => w.length + 1 - j.1)
      (fun j => j.1 ≤ w.length + 1 ∧ j.2.2.2.length ≤ 10 * i + j.1 ∧ j.2.2.2 ++ (movesR (el s i) w i j.1 (w.length + 1 - j.1) ++ movesF w (i + 1) (s.drop (i + 1))) = R) (0, v1, v2, acc) (by simp; exact ⟨ha, hc⟩) (by simp) ?_
    intro ⟨j, w1, w2, acc'⟩ Q'' ⟨hj, ha', hc'⟩ hq' he' hr'
    dsimp only at hj ha' hc'
    try simp 
    refine CondK.intro (fun h2 => ?_) (fun h2 => ?_)
    · simp at h2
      rw [show w.length + 1 - j = (w.length + 1 - (j + 1)) + 1 by omega, movesR] at hc'
      simp [h1]
      try simp 
      repeat' (first
        | (refine CallX.pure (rApply_c (el s i) w j hsm hw1) (by simp) (by simp) ?_; try simp )
        | (refine CallK.intro (rApply_c (el s i) w j hsm hw1) (by simp) (by simp) ?_; try simp )
        | (refine CallG.intro (fun _ => rApply_c (el s i) w j hsm hw1) (by simp) (by simp) ?_; try simp )
        | ((with_reducible refine PreK.intro ?_ ?_); (next => (first | omega | (intros; first | omega | (refine ⟨by omega, ?_⟩; repeat (first | assumption | constructor)) | assumption))); intro _; try simp )
        | fail)
      refine CondK.intro (fun h3 => ?_) (fun h3 => ?_)
      · simp at h3
        have e : moveAt (el s i) w i j = [⟨⟨i, j⟩, (applyM (el s i) w j).1⟩] := by simp [moveAt, h3]
        rw [e] at hc'
        try simp 
        repeat' (first
          | ((with_reducible refine PreK.intro ?_ ?_); (next => (first | omega | (intros; first | omega | (refine ⟨by omega, ?_⟩; repeat (first | assumption | constructor)) | assumption))); intro _; try simp )
          | fail)
        exact hq' (j + 1, w1 + 1, w2 + 1, acc' ++ [⟨⟨i, j⟩, (applyM (el s i) w j).1⟩]) _ ⟨by dsimp only; omega, by simp; omega, by simpa using hc'⟩ (by dsimp only; omega) (by simp)
      · simp at h3
        have e : moveAt (el s i) w i j = [] := by simp [moveAt, h3]
        rw [e] at hc'
        try simp 
        repeat' (first
          | ((with_reducible refine PreK.intro ?_ ?_); (next => (first | omega | (intros; first | omega | (refine ⟨by omega, ?_⟩; repeat (first | assumption | constructor)) | assumption))); intro _; try simp )
          | fail)
        exact hq' (j + 1, w1, w2, acc') _ ⟨by dsimp only; omega, by dsimp only; omega, by simpa using hc'⟩ (by dsimp only; omega) (by simp)
    · simp at h2
      rw [show w.length + 1 - j = 0 by omega, movesR] at hc'
      try simp 
      apply he'
      try simp 
      repeat' (first
        | ((with_reducible refine PreK.intro ?_ ?_); (next => (first | omega | (intros; first | omega | (refine ⟨by omega, ?_⟩; repeat (first | assumption | constructor)) | assumption))); intro _; try simp )
        | fail)
      exact hq (i + 1, w1, w2, acc') _ ⟨by dsimp only; omega, by dsimp only; omega, by simpa using hc'⟩ (by dsimp only; omega) (by simp)
  · simp at h1
    rw [List.drop_eq_nil_of_le (by omega)] at hc
    simp [movesF] at hc
    try simp 
    apply he
    simp [hc]
end Go.Proofs.Ytaooenmkofjafaa
end

section
/- Contracts: Steps, and which rule is special. -/
namespace Go.Proofs.Ytaooenmkofjafaa
open Go.Abs Go
set_option maxRecDepth 20000
set_option maxHeartbeats 2000000
attribute [local irreducible] PreK CondK CallK CallG CallX LoopK
attribute [local simp] avsEq avEq akind teq vkind vEq

theorem swErr_zero {s : List Rule} {w : List Int} (h : swErr s w = 0) : sysErr s = 0 ∧ wordErr w = 0 := by
  unfold swErr at h
  by_cases h1 : sysErr s = 0
  · simp [h1] at h; exact ⟨h1, h⟩
  · simp [h1] at h
theorem movesR_len (r : Rule) (w : List Int) (k : Nat) : ∀ (n i : Nat), (movesR r w k i n).length ≤ n
  | 0, i => by simp [movesR]
  | n + 1, i => by
    have h1 := movesR_len r w k n (i + 1)
    have h2 := moveI_len r w k i
    have e : moveAt r w k i = moveI r w k i := rfl
    rw [movesR, e]
    simp; omega
theorem movesF_len (w : List Int) : ∀ (s : List Rule) (k : Nat), (movesF w k s).length ≤ s.length * (w.length + 1)
  | [], k => by simp [movesF]
  | r :: s, k => by
    have h1 := movesF_len w s (k + 1)
    have h2 := movesR_len r w k (w.length + 1) 0
    rw [movesF]
    simp only [List.length_append, List.length_cons, Nat.add_mul, Nat.one_mul]
    omega
theorem movesM_len {s : List Rule} {w : List Int} (hs : sysErr s = 0) (hw : wordErr w = 0) : (movesM s w).length ≤ 54 := by
  have h1 := (sysErr_zero hs).1
  have h2 := (wordErr_zero hw).1
  have h3 := movesF_len w s 0
  have h4 : s.length * (w.length + 1) ≤ 6 * 9 := Nat.mul_le_mul h1 (by omega)
  unfold movesM; omega
theorem Steps_c (s : List Rule) (w : List Int) (h : Sys.small s) (hw : w.length ≤ 1000) : CallP Try.prog 80 [rulesV s, ints w] (.tup [stepsV (stepsM s w), iv (swErr s w)]) := by
  refine C80 (by simp) ?_
  have hck := check_c s [w] h (by simp) (by simpa using hw)
  rw [check_one] at hck
  simp [A80]
  try simp 
  repeat' (first
    | (refine CallX.pure (hck) (by simp) (by simp) ?_; try simp )
    | (refine CallK.intro (hck) (by simp) (by simp) ?_; try simp )
    | (refine CallG.intro (fun _ => hck) (by simp) (by simp) ?_; try simp )
    | ((with_reducible refine PreK.intro ?_ ?_); (next => (first | omega | (intros; first | omega | (refine ⟨by omega, ?_⟩; repeat (first | assumption | constructor)) | assumption))); intro _; try simp )
    | fail)
  refine CondK.intro (fun h1 => ?_) (fun h1 => ?_)
  · simp at h1
    simp [stepsM, h1]
  · simp at h1
    obtain ⟨h2, h3⟩ := swErr_zero h1
    have hlen := movesM_len h2 h3
    have hmv := moves_c s w h h2 h3
    have hst : stepsM s w = (movesM s w).map (·.step) := by simp [stepsM, h1]
    rw [hst]
    generalize hR : movesM s w = R at hmv hlen
    try simp 
    repeat' (first
      | (refine CallX.pure (hmv) (by simp) (by simp) ?_; try simp )
      | (refine CallK.intro (hmv) (by simp) (by simp) ?_; try simp )
      | (refine CallG.intro (fun _ => hmv) (by simp) (by simp) ?_; try simp )
      | ((with_reducible refine PreK.intro ?_ ?_); (next => (first | omega | (intros; first | omega | (refine ⟨by omega, ?_⟩; repeat (first | assumption | constructor)) | assumption))); intro _; try simp )
      | fail)
    refine LoopK.by (ι := Nat × Nat × List Step) (fun i => ⟨[(21, iv i.1), (20, iv R.length), (19, movesV R), (7, .sl 7 i.2.1 0 i.2.2.length)], [(7, some ⟨2, i.2.2.map stepV, i.2.1, false⟩)]⟩) (fun i => R.length - i.1)
      (fun i => i.1 ≤ R.length ∧ i.2.2.length ≤ i.1 ∧ i.2.2 ++ (R.drop i.1).map (·.step) = R.map (·.step)) (0, 1, []) (by simp) (by simp) ?_
    intro ⟨i, ver, acc⟩ Q' ⟨hi, ha, hc⟩ hq he hr
    dsimp only at hi ha hc
    try simp 
    refine CondK.intro (fun h4 => ?_) (fun h4 => ?_)
    · simp at h4
      rw [drop_cons R i h4, List.map_cons] at hc
      simp [h4]
      try simp 
      repeat' (first
        | ((with_reducible refine PreK.intro ?_ ?_); (next => (first | omega | (intros; first | omega | (refine ⟨by omega, ?_⟩; repeat (first | assumption | constructor)) | assumption))); intro _; try simp )
        | fail)
      exact hq (i + 1, ver + 1, acc ++ [(el R i).step]) _ ⟨by dsimp only; omega, by simp; omega, by simpa using hc⟩ (by dsimp only; omega) (by simp)
    · simp at h4
      rw [List.drop_eq_nil_of_le (by omega)] at hc
      simp at hc
      try simp 
      apply he
      simp [hc, h1]
theorem rSteps_c (s : List Rule) (w : List Int) (h : Sys.small s) (hw : w.length ≤ 1000) : CallP Try.prog 81 [rulesV s, ints w] (.tup [stepsV (stepsM s w), iv (swErr s w)]) := by
  refine C81 (by simp) ?_
  have hck := rworded_c s w [] h hw (by simp)
  rw [check_nil] at hck
  simp [A81]
  try simp 
  repeat' (first
    | (refine CallX.pure (hck) (by simp) (by simp) ?_; try simp )
    | (refine CallK.intro (hck) (by simp) (by simp) ?_; try simp )
    | (refine CallG.intro (fun _ => hck) (by simp) (by simp) ?_; try simp )
    | ((with_reducible refine PreK.intro ?_ ?_); (next => (first | omega | (intros; first | omega | (refine ⟨by omega, ?_⟩; repeat (first | assumption | constructor)) | assumption))); intro _; try simp )
    | fail)
  refine CondK.intro (fun h1 => ?_) (fun h1 => ?_)
  · simp at h1
    simp [stepsM, h1]
  · simp at h1
    obtain ⟨h2, h3⟩ := swErr_zero h1
    have hst : stepsM s w = (movesM s w).map (·.step) := by simp [stepsM, h1]
    rw [hst]
    try simp 
    repeat' (first
      | (refine CallX.pure (rsteps_c s w h (sysErr_zero h2).1 (wordErr_zero h3).1) (by simp) (by simp) ?_; try simp )
      | (refine CallK.intro (rsteps_c s w h (sysErr_zero h2).1 (wordErr_zero h3).1) (by simp) (by simp) ?_; try simp )
      | (refine CallG.intro (fun _ => rsteps_c s w h (sysErr_zero h2).1 (wordErr_zero h3).1) (by simp) (by simp) ?_; try simp )
      | ((with_reducible refine PreK.intro ?_ ?_); (next => (first | omega | (intros; first | omega | (refine ⟨by omega, ?_⟩; repeat (first | assumption | constructor)) | assumption))); intro _; try simp )
      | fail)
    simp [h1]
theorem two_c (r s : Rule) (h : r.small) (h2 : s.small) : CallP Try.prog 147 [ruleV r, ruleV s] (iv (twoErr r s)) := by
  refine C147 (by simp) ?_
  simp [A147]
  try simp 
  repeat' (first
    | (refine CallX.pure (validate_s h) (by simp) (by simp) ?_; try simp )
    | (refine CallK.intro (validate_s h) (by simp) (by simp) ?_; try simp )
    | (refine CallG.intro (fun _ => validate_s h) (by simp) (by simp) ?_; try simp )
    | ((with_reducible refine PreK.intro ?_ ?_); (next => (first | omega | (intros; first | omega | (refine ⟨by omega, ?_⟩; repeat (first | assumption | constructor)) | assumption))); intro _; try simp )
    | fail)
  refine CondK.intro (fun h1 => ?_) (fun h1 => ?_)
  · simp at h1
    simp [twoErr, h1]
  · simp at h1
    try simp 
    try simp 
    repeat' (first
      | (refine CallX.pure (validate_s h2) (by simp) (by simp) ?_; try simp )
      | (refine CallK.intro (validate_s h2) (by simp) (by simp) ?_; try simp )
      | (refine CallG.intro (fun _ => validate_s h2) (by simp) (by simp) ?_; try simp )
      | ((with_reducible refine PreK.intro ?_ ?_); (next => (first | omega | (intros; first | omega | (refine ⟨by omega, ?_⟩; repeat (first | assumption | constructor)) | assumption))); intro _; try simp )
      | fail)
    simp [twoErr, h1]
theorem rtwo_c (r s : Rule) (h : r.small) (h2 : s.small) : CallP Try.prog 239 [ruleV r, ruleV s] (iv (twoErr r s)) := by
  refine C239 (by simp) ?_
  simp [A239]
  try simp 
  repeat' (first
    | (refine CallX.pure (rValidate_c r h) (by simp) (by simp) ?_; try simp )
    | (refine CallK.intro (rValidate_c r h) (by simp) (by simp) ?_; try simp )
    | (refine CallG.intro (fun _ => rValidate_c r h) (by simp) (by simp) ?_; try simp )
    | ((with_reducible refine PreK.intro ?_ ?_); (next => (first | omega | (intros; first | omega | (refine ⟨by omega, ?_⟩; repeat (first | assumption | constructor)) | assumption))); intro _; try simp )
    | fail)
  refine CondK.intro (fun h1 => ?_) (fun h1 => ?_)
  · simp at h1
    simp [twoErr, h1]
  · simp at h1
    try simp 
    try simp 
    repeat' (first
      | (refine CallX.pure (rValidate_c s h2) (by simp) (by simp) ?_; try simp )
      | (refine CallK.intro (rValidate_c s h2) (by simp) (by simp) ?_; try simp )
      | (refine CallG.intro (fun _ => rValidate_c s h2) (by simp) (by simp) ?_; try simp )
      | ((with_reducible refine PreK.intro ?_ ?_); (next => (first | omega | (intros; first | omega | (refine ⟨by omega, ?_⟩; repeat (first | assumption | constructor)) | assumption))); intro _; try simp )
      | fail)
    simp [twoErr, h1]
def andL (a b : List Int) : List Bool := [mayS a (-1) && mayS b (-1), mayS a 0 && mayS b 0, mayS a 1 && mayS b 1, mayS a 2 && mayS b 2, mayS a 3 && mayS b 3, mayS a 4 && mayS b 4, mayS a 5 && mayS b 5]
@[simp] theorem andL_length (a b : List Int) : (andL a b).length = 7 := rfl
@[simp] theorem sideL_length (a : List Int) : (sideL a).length = 7 := rfl
theorem big_of {n : Nat} (h : n ≤ 1000) : n ≤ big := by simp only [big]; omega
theorem and_s (a b : List Int) : CallP Try.prog 201 [sideV (sideL a), sideV (sideL b)] (sideV (andL a b)) := and_c _ _ _ _ _ _ _ _ _ _ _ _ _ _
theorem both_c (r s : Rule) (h : r.small) (h2 : s.small) : CallP Try.prog 148 [ruleV r, ruleV s] (.tup [sideV (andL r.left s.left), sideV (andL r.right s.right)]) := by
  refine C148 (by simp) ?_
  simp [A148]
  refine CallK.intro (by simpa using of_c r.left (big_of h.2.1)) (by simp) (by simp) ?_
  try simp 
  refine CallK.intro (by simpa using of_c s.left (big_of h2.2.1)) (by simp) (by simp) ?_
  try simp 
  refine CallK.intro (by simpa using and_s r.left s.left) (by simp) (by simp) ?_
  try simp 
  refine CallK.intro (by simpa using of_c r.right (big_of h.2.2)) (by simp) (by simp) ?_
  try simp 
  refine CallK.intro (by simpa using of_c s.right (big_of h2.2.2)) (by simp) (by simp) ?_
  try simp 
  refine CallK.intro (by simpa using and_s r.right s.right) (by simp) (by simp) ?_
  try simp 
  try simp 
  repeat' (first
    | ((with_reducible refine PreK.intro ?_ ?_); (next => (first | omega | (intros; first | omega | (refine ⟨by omega, ?_⟩; repeat (first | assumption | constructor)) | assumption))); intro _; try simp )
    | fail)
theorem rinside_c (a b : List Int) (ha : a.length ≤ 1000) (hb : b.length ≤ 1000) : CallP Try.prog 240 [ints a, ints b] (bv (insideM a b)) := by
  refine C240 (by simp) ?_
  generalize hR : insideM a b = R
  unfold insideM mayAll at hR
  simp [A240]
  refine LoopK.by (fun i : Nat => ⟨[(5, iv ((i : Int) - 1)), (0, ints a), (1, ints b)], []⟩) (fun i => 7 - i) (fun i => i ≤ 7 ∧ (([-1, 0, 1, 2, 3, 4, 5] : List Int).drop i).all (fun n => !mayS a n || mayS b n) = R) 0 (by simpa using hR) (by simp) ?_
  intro i Q' ⟨hi, hc⟩ hq he hr
  try simp 
  refine CondK.intro (fun h1 => ?_) (fun h1 => ?_)
  · simp at h1
    have hlt : i < 7 := by omega
    have hel : el ([-1, 0, 1, 2, 3, 4, 5] : List Int) i = (i : Int) - 1 := by
      have : i = 0 ∨ i = 1 ∨ i = 2 ∨ i = 3 ∨ i = 4 ∨ i = 5 ∨ i = 6 := by omega
      rcases this with rfl | rfl | rfl | rfl | rfl | rfl | rfl <;> rfl
    rw [drop_cons _ i (by simpa using hlt), hel, List.all_cons] at hc
    try simp 
    repeat' (first
      | (refine CallX.pure (rmay_c a ((i : Int) - 1) ha) (by simp) (by simp) ?_; try simp )
      | (refine CallK.intro (rmay_c a ((i : Int) - 1) ha) (by simp) (by simp) ?_; try simp )
      | (refine CallG.intro (fun _ => rmay_c a ((i : Int) - 1) ha) (by simp) (by simp) ?_; try simp )
      | (refine CallX.pure (rmay_c b ((i : Int) - 1) hb) (by simp) (by simp) ?_; try simp )
      | (refine CallK.intro (rmay_c b ((i : Int) - 1) hb) (by simp) (by simp) ?_; try simp )
      | (refine CallG.intro (fun _ => rmay_c b ((i : Int) - 1) hb) (by simp) (by simp) ?_; try simp )
      | ((with_reducible refine PreK.intro ?_ ?_); (next => (first | omega | (intros; first | omega | (refine ⟨by omega, ?_⟩; repeat (first | assumption | constructor)) | assumption))); intro _; try simp )
      | fail)
    refine CondK.intro (fun h2 => ?_) (fun h2 => ?_)
    · have : (!mayS a ((i : Int) - 1) || mayS b ((i : Int) - 1)) = false := by
        revert h2; cases mayS a ((i : Int) - 1) <;> cases mayS b ((i : Int) - 1) <;> simp
      rw [this] at hc
      simp at hc
      try simp 
      apply hr
      simp [hc]
    · have : (!mayS a ((i : Int) - 1) || mayS b ((i : Int) - 1)) = true := by
        revert h2; cases mayS a ((i : Int) - 1) <;> cases mayS b ((i : Int) - 1) <;> simp
      rw [this, Bool.true_and] at hc
      try simp 
      repeat' (first
        | ((with_reducible refine PreK.intro ?_ ?_); (next => (first | omega | (intros; first | omega | (refine ⟨by omega, ?_⟩; repeat (first | assumption | constructor)) | assumption))); intro _; try simp )
        | fail)
      exact hq (i + 1) _ ⟨by omega, hc⟩ (by omega) (by simp)
  · simp at h1
    have : i = 7 := by omega
    subst this
    simp at hc
    try simp 
    apply he
    simp [hc]
theorem rIsSpecial_c (r s : Rule) (h : r.small) (h2 : s.small) : CallP Try.prog 226 [ruleV r, ruleV s] (.tup [bv (specM r s), iv (twoErr r s)]) := by
  refine C226 (by simp) ?_
  simp [A226]
  try simp 
  repeat' (first
    | (refine CallX.pure (rtwo_c r s h h2) (by simp) (by simp) ?_; try simp )
    | (refine CallK.intro (rtwo_c r s h h2) (by simp) (by simp) ?_; try simp )
    | (refine CallG.intro (fun _ => rtwo_c r s h h2) (by simp) (by simp) ?_; try simp )
    | ((with_reducible refine PreK.intro ?_ ?_); (next => (first | omega | (intros; first | omega | (refine ⟨by omega, ?_⟩; repeat (first | assumption | constructor)) | assumption))); intro _; try simp )
    | fail)
  refine CondK.intro (fun h1 => ?_) (fun h1 => ?_)
  · simp at h1
    simp [specM, h1]
  · simp at h1
    try simp 
    repeat' (first
      | (refine CallX.pure (rinside_c r.left s.left h.2.1 h2.2.1) (by simp) (by simp) ?_; try simp )
      | (refine CallK.intro (rinside_c r.left s.left h.2.1 h2.2.1) (by simp) (by simp) ?_; try simp )
      | (refine CallG.intro (fun _ => rinside_c r.left s.left h.2.1 h2.2.1) (by simp) (by simp) ?_; try simp )
      | (refine CallX.pure (rinside_c r.right s.right h.2.2 h2.2.2) (by simp) (by simp) ?_; try simp )
      | (refine CallK.intro (rinside_c r.right s.right h.2.2 h2.2.2) (by simp) (by simp) ?_; try simp )
      | (refine CallG.intro (fun _ => rinside_c r.right s.right h.2.2 h2.2.2) (by simp) (by simp) ?_; try simp )
      | ((with_reducible refine PreK.intro ?_ ?_); (next => (first | omega | (intros; first | omega | (refine ⟨by omega, ?_⟩; repeat (first | assumption | constructor)) | assumption))); intro _; try simp )
      | fail)
    simp [specM, h1, Bool.and_assoc]
theorem and_self_eq (a b : Bool) : ((a && b) == a) = (!a || b) := by cases a <;> cases b <;> rfl
theorem IsSpecial_c (r s : Rule) (h : r.small) (h2 : s.small) : CallP Try.prog 63 [ruleV r, ruleV s] (.tup [bv (specM r s), iv (twoErr r s)]) := by
  refine C63 (by simp) ?_
  simp [A63]
  try simp 
  repeat' (first
    | (refine CallX.pure (two_c r s h h2) (by simp) (by simp) ?_; try simp )
    | (refine CallK.intro (two_c r s h h2) (by simp) (by simp) ?_; try simp )
    | (refine CallG.intro (fun _ => two_c r s h h2) (by simp) (by simp) ?_; try simp )
    | ((with_reducible refine PreK.intro ?_ ?_); (next => (first | omega | (intros; first | omega | (refine ⟨by omega, ?_⟩; repeat (first | assumption | constructor)) | assumption))); intro _; try simp )
    | fail)
  refine CondK.intro (fun h1 => ?_) (fun h1 => ?_)
  · simp at h1
    simp [specM, h1]
  · simp at h1
    try simp 
    repeat' (first
      | (refine CallX.pure (both_c r s h h2) (by simp) (by simp) ?_; try simp )
      | (refine CallK.intro (both_c r s h h2) (by simp) (by simp) ?_; try simp )
      | (refine CallG.intro (fun _ => both_c r s h h2) (by simp) (by simp) ?_; try simp )
      | ((with_reducible refine PreK.intro ?_ ?_); (next => (first | omega | (intros; first | omega | (refine ⟨by omega, ?_⟩; repeat (first | assumption | constructor)) | assumption))); intro _; try simp )
      | fail)
    try simp [andL, sideL]
    repeat' (first
      | (refine CallX.pure (of_c r.left (big_of h.2.1)) (by simp) (by simp) ?_; try simp [andL, sideL])
      | (refine CallK.intro (of_c r.left (big_of h.2.1)) (by simp) (by simp) ?_; try simp [andL, sideL])
      | (refine CallG.intro (fun _ => of_c r.left (big_of h.2.1)) (by simp) (by simp) ?_; try simp [andL, sideL])
      | (refine CallX.pure (of_c r.right (big_of h.2.2)) (by simp) (by simp) ?_; try simp [andL, sideL])
      | (refine CallK.intro (of_c r.right (big_of h.2.2)) (by simp) (by simp) ?_; try simp [andL, sideL])
      | (refine CallG.intro (fun _ => of_c r.right (big_of h.2.2)) (by simp) (by simp) ?_; try simp [andL, sideL])
      | ((with_reducible refine PreK.intro ?_ ?_); (next => (first | omega | (intros; first | omega | (refine ⟨by omega, ?_⟩; repeat (first | assumption | constructor)) | assumption))); intro _; try simp [andL, sideL])
      | fail)
    simp [specM, h1, insideM, mayAll, and_self_eq, Bool.and_assoc]
end Go.Proofs.Ytaooenmkofjafaa
end
