/- Part 8 of the proof: the value layer and the contracts of the functions that the statement reaches; proved without conditions beyond those each theorem states. -/
import Derived.Test.YtkhddecnllcaiaaV5
import Derived.Test.YtkhddecnllcaiaaV6
import Derived.Test.YtkhddecnllcaiaaV7
set_option linter.unusedSimpArgs false
set_option linter.unusedVariables false

section
/- Functions of the cut as the value layer reads them. (written by gen.py) -/
set_option maxRecDepth 20000
namespace Go.Proofs.Ytkhddecnllcaiaa
open Go.Abs Go

def A4 : ACode :=
  (.seq (.reg [] [⟨some 6, (.assign (.const (.bool false))), 4, none⟩])
    (.seq (.seq (.reg [] [⟨some 44, (.buildSlice 22 2 #[(0, (.const (.int .i64 1))), (1, (.const (.int .i64 1)))]), 22, none⟩,
      ⟨some 45, (.build 24 #[(0, (.const (.int .i64 0))), (1, (.tmp 44))]), 24, none⟩,
      ⟨some 46, (.build 24 #[(0, (.const (.int .i64 1)))]), 24, none⟩,
      ⟨some 47, (.buildSlice 41 2 #[(0, (.tmp 45)), (1, (.tmp 46))]), 41, none⟩,
      ⟨some 48, (.buildSlice 22 1 #[(0, (.const (.int .i64 0)))]), 22, none⟩,
      ⟨some 49, (.call ⟨(.value (.func 17)), #[(.tmp 47), (.tmp 48)], #[41, 22]⟩), 42, none⟩,
      ⟨some 43, (.move (.tmp 49)), 42, none⟩,
      ⟨some 50, (.extract (.tmp 43) 0), 3, none⟩,
      ⟨some 51, (.extract (.tmp 43) 1), 4, none⟩,
      ⟨some 52, (.extract (.tmp 43) 2), 27, none⟩,
      ⟨some 7, (.assign (.tmp 50)), 3, none⟩,
      ⟨some 8, (.assign (.tmp 51)), 4, none⟩,
      ⟨some 9, (.assign (.tmp 52)), 27, none⟩])
    (.seq (.reg [] [⟨some 53, (.move (.tmp 9)), 27, none⟩,
      ⟨some 54, (.binOp .neq 27 (.tmp 53) (.const (.int .i64 0)) 27), 4, none⟩,
      ⟨some 55, (.move (.tmp 54)), 4, none⟩,
      ⟨some 56, (.move (.tmp 8)), 4, some (55, false)⟩,
      ⟨some 57, (.unOp .not 4 (.tmp 56)), 4, some (55, false)⟩,
      ⟨some 58, (.pick (.tmp 55) (.const (.bool true)) (.tmp 57)), 4, none⟩,
      ⟨some 59, (.move (.tmp 58)), 4, none⟩,
      ⟨some 60, (.move (.tmp 7)), 3, some (59, false)⟩,
      ⟨some 61, (.binOp .neq 3 (.tmp 60) (.const (.int .i64 3)) 3), 4, some (59, false)⟩,
      ⟨some 62, (.pick (.tmp 59) (.const (.bool true)) (.tmp 61)), 4, none⟩])
    (.cond (.tmp 62)
    (.seq (.reg [] [⟨some 6, (.assign (.const (.bool false))), 4, none⟩])
    .ret)
    .skip)))
    (.seq (.seq (.reg [] [⟨some 63, (.move (.tmp 0)), 41, none⟩,
      ⟨some 64, (.call ⟨(.value (.func 18)), #[(.tmp 63)], #[41]⟩), 4, none⟩,
      ⟨some 65, (.move (.tmp 64)), 4, none⟩,
      ⟨some 66, (.move (.tmp 1)), 22, some (65, false)⟩,
      ⟨some 67, (.call ⟨(.builtin .len), #[(.tmp 66)], #[22]⟩), 3, some (65, false)⟩,
      ⟨some 68, (.binOp .gtr 3 (.tmp 67) (.const (.int .i64 100)) 3), 4, some (65, false)⟩,
      ⟨some 69, (.pick (.tmp 65) (.const (.bool true)) (.tmp 68)), 4, none⟩])
    (.cond (.tmp 69)
    (.seq (.reg [] [⟨some 6, (.assign (.const (.bool true))), 4, none⟩])
    .ret)
    .skip))
    (.seq (.reg [] [⟨some 71, (.move (.tmp 0)), 41, none⟩,
      ⟨some 72, (.move (.tmp 1)), 22, none⟩,
      ⟨some 73, (.call ⟨(.value (.func 19)), #[(.tmp 71), (.tmp 72)], #[41, 22]⟩), 46, none⟩,
      ⟨some 70, (.move (.tmp 73)), 46, none⟩,
      ⟨some 74, (.extract (.tmp 70) 0), 45, none⟩,
      ⟨some 75, (.extract (.tmp 70) 1), 27, none⟩,
      ⟨some 10, (.assign (.tmp 74)), 45, none⟩,
      ⟨some 11, (.assign (.tmp 75)), 27, none⟩])
    (.seq (.seq (.reg [] [⟨some 76, (.move (.tmp 11)), 27, none⟩,
      ⟨some 77, (.binOp .neq 27 (.tmp 76) (.const (.int .i64 0)) 27), 4, none⟩,
      ⟨some 78, (.move (.tmp 77)), 4, none⟩,
      ⟨some 79, (.move (.tmp 10)), 45, some (78, false)⟩,
      ⟨some 80, (.call ⟨(.builtin .len), #[(.tmp 79)], #[45]⟩), 3, some (78, false)⟩,
      ⟨some 81, (.binOp .eql 3 (.tmp 80) (.const (.int .i64 0)) 3), 4, some (78, false)⟩,
      ⟨some 82, (.pick (.tmp 78) (.const (.bool true)) (.tmp 81)), 4, none⟩,
      ⟨some 83, (.move (.tmp 82)), 4, none⟩,
      ⟨some 84, (.move (.tmp 10)), 45, some (83, false)⟩,
      ⟨some 85, (.call ⟨(.builtin .len), #[(.tmp 84)], #[45]⟩), 3, some (83, false)⟩,
      ⟨some 86, (.binOp .gtr 3 (.tmp 85) (.const (.int .i64 300)) 3), 4, some (83, false)⟩,
      ⟨some 87, (.pick (.tmp 83) (.const (.bool true)) (.tmp 86)), 4, none⟩])
    (.cond (.tmp 87)
    (.seq (.reg [] [⟨some 88, (.move (.tmp 11)), 27, none⟩,
      ⟨some 89, (.binOp .neq 27 (.tmp 88) (.const (.int .i64 0)) 27), 4, none⟩,
      ⟨some 6, (.assign (.tmp 89)), 4, none⟩])
    .ret)
    .skip))
    (.seq (.reg [] [⟨some 91, (.move (.tmp 0)), 41, none⟩,
      ⟨some 92, (.move (.tmp 1)), 22, none⟩,
      ⟨some 93, (.call ⟨(.value (.func 17)), #[(.tmp 91), (.tmp 92)], #[41, 22]⟩), 42, none⟩,
      ⟨some 90, (.move (.tmp 93)), 42, none⟩,
      ⟨some 94, (.extract (.tmp 90) 0), 3, none⟩,
      ⟨some 95, (.extract (.tmp 90) 1), 4, none⟩,
      ⟨some 96, (.extract (.tmp 90) 2), 27, none⟩,
      ⟨some 12, (.assign (.tmp 94)), 3, none⟩,
      ⟨some 13, (.assign (.tmp 95)), 4, none⟩,
      ⟨some 11, (.assign (.tmp 96)), 27, none⟩])
    (.seq (.reg [] [⟨some 98, (.move (.tmp 0)), 41, none⟩,
      ⟨some 99, (.move (.tmp 1)), 22, none⟩,
      ⟨some 100, (.call ⟨(.value (.func 20)), #[(.tmp 98), (.tmp 99)], #[41, 22]⟩), 32, none⟩,
      ⟨some 97, (.move (.tmp 100)), 32, none⟩,
      ⟨some 101, (.extract (.tmp 97) 0), 4, none⟩,
      ⟨some 102, (.extract (.tmp 97) 1), 27, none⟩,
      ⟨some 14, (.assign (.tmp 101)), 4, none⟩,
      ⟨some 15, (.assign (.tmp 102)), 27, none⟩])
    (.seq (.reg [] [⟨some 104, (.move (.tmp 0)), 41, none⟩,
      ⟨some 105, (.move (.tmp 1)), 22, none⟩,
      ⟨some 106, (.call ⟨(.value (.func 21)), #[(.tmp 104), (.tmp 105)], #[41, 22]⟩), 46, none⟩,
      ⟨some 103, (.move (.tmp 106)), 46, none⟩,
      ⟨some 107, (.extract (.tmp 103) 0), 45, none⟩,
      ⟨some 108, (.extract (.tmp 103) 1), 27, none⟩,
      ⟨some 16, (.assign (.tmp 107)), 45, none⟩,
      ⟨some 17, (.assign (.tmp 108)), 27, none⟩])
    (.seq (.reg [] [⟨some 110, (.move (.tmp 0)), 41, none⟩,
      ⟨some 111, (.move (.tmp 1)), 22, none⟩,
      ⟨some 112, (.call ⟨(.value (.func 22)), #[(.tmp 110), (.tmp 111)], #[41, 22]⟩), 32, none⟩,
      ⟨some 109, (.move (.tmp 112)), 32, none⟩,
      ⟨some 113, (.extract (.tmp 109) 0), 4, none⟩,
      ⟨some 114, (.extract (.tmp 109) 1), 27, none⟩,
      ⟨some 18, (.assign (.tmp 113)), 4, none⟩,
      ⟨some 19, (.assign (.tmp 114)), 27, none⟩])
    (.seq (.reg [] [⟨some 116, (.move (.tmp 0)), 41, none⟩,
      ⟨some 117, (.move (.tmp 1)), 22, none⟩,
      ⟨some 118, (.call ⟨(.value (.func 23)), #[(.tmp 116), (.tmp 117)], #[41, 22]⟩), 38, none⟩,
      ⟨some 115, (.move (.tmp 118)), 38, none⟩,
      ⟨some 119, (.extract (.tmp 115) 0), 22, none⟩,
      ⟨some 120, (.extract (.tmp 115) 1), 4, none⟩,
      ⟨some 121, (.extract (.tmp 115) 2), 27, none⟩,
      ⟨some 20, (.assign (.tmp 119)), 22, none⟩,
      ⟨some 21, (.assign (.tmp 120)), 4, none⟩,
      ⟨some 22, (.assign (.tmp 121)), 27, none⟩])
    (.seq (.seq (.reg [] [⟨some 122, (.move (.tmp 11)), 27, none⟩,
      ⟨some 123, (.binOp .neq 27 (.tmp 122) (.const (.int .i64 0)) 27), 4, none⟩,
      ⟨some 124, (.move (.tmp 123)), 4, none⟩,
      ⟨some 125, (.move (.tmp 15)), 27, some (124, false)⟩,
      ⟨some 126, (.binOp .neq 27 (.tmp 125) (.const (.int .i64 0)) 27), 4, some (124, false)⟩,
      ⟨some 127, (.pick (.tmp 124) (.const (.bool true)) (.tmp 126)), 4, none⟩,
      ⟨some 128, (.move (.tmp 127)), 4, none⟩,
      ⟨some 129, (.move (.tmp 17)), 27, some (128, false)⟩,
      ⟨some 130, (.binOp .neq 27 (.tmp 129) (.const (.int .i64 0)) 27), 4, some (128, false)⟩,
      ⟨some 131, (.pick (.tmp 128) (.const (.bool true)) (.tmp 130)), 4, none⟩,
      ⟨some 132, (.move (.tmp 131)), 4, none⟩,
      ⟨some 133, (.move (.tmp 19)), 27, some (132, false)⟩,
      ⟨some 134, (.binOp .neq 27 (.tmp 133) (.const (.int .i64 0)) 27), 4, some (132, false)⟩,
      ⟨some 135, (.pick (.tmp 132) (.const (.bool true)) (.tmp 134)), 4, none⟩,
      ⟨some 136, (.move (.tmp 135)), 4, none⟩,
      ⟨some 137, (.move (.tmp 22)), 27, some (136, false)⟩,
      ⟨some 138, (.binOp .neq 27 (.tmp 137) (.const (.int .i64 0)) 27), 4, some (136, false)⟩,
      ⟨some 139, (.pick (.tmp 136) (.const (.bool true)) (.tmp 138)), 4, none⟩,
      ⟨some 140, (.move (.tmp 139)), 4, none⟩,
      ⟨some 141, (.move (.tmp 13)), 4, some (140, false)⟩,
      ⟨some 142, (.move (.tmp 14)), 4, some (140, false)⟩,
      ⟨some 143, (.binOp .eql 4 (.tmp 141) (.tmp 142) 4), 4, some (140, false)⟩,
      ⟨some 144, (.pick (.tmp 140) (.const (.bool true)) (.tmp 143)), 4, none⟩,
      ⟨some 145, (.move (.tmp 144)), 4, none⟩,
      ⟨some 146, (.move (.tmp 14)), 4, some (145, false)⟩,
      ⟨some 147, (.unOp .not 4 (.tmp 146)), 4, some (145, false)⟩,
      ⟨some 148, (.move (.tmp 147)), 4, some (145, false)⟩,
      ⟨some 149, (.move (.tmp 16)), 45, some (148, true)⟩,
      ⟨some 150, (.call ⟨(.builtin .len), #[(.tmp 149)], #[45]⟩), 3, some (148, true)⟩,
      ⟨some 151, (.binOp .eql 3 (.tmp 150) (.const (.int .i64 0)) 3), 4, some (148, true)⟩,
      ⟨some 152, (.pick (.tmp 148) (.tmp 151) (.const (.bool false))), 4, some (145, false)⟩,
      ⟨some 153, (.pick (.tmp 145) (.const (.bool true)) (.tmp 152)), 4, none⟩,
      ⟨some 154, (.move (.tmp 153)), 4, none⟩,
      ⟨some 155, (.move (.tmp 12)), 3, some (154, false)⟩,
      ⟨some 156, (.move (.tmp 10)), 45, some (154, false)⟩,
      ⟨some 157, (.call ⟨(.builtin .len), #[(.tmp 156)], #[45]⟩), 3, some (154, false)⟩,
      ⟨some 158, (.binOp .geq 3 (.tmp 155) (.tmp 157) 3), 4, some (154, false)⟩,
      ⟨some 159, (.move (.tmp 158)), 4, some (154, false)⟩,
      ⟨some 160, (.move (.tmp 13)), 4, some (159, true)⟩,
      ⟨some 161, (.pick (.tmp 159) (.tmp 160) (.const (.bool false))), 4, some (154, false)⟩,
      ⟨some 162, (.pick (.tmp 154) (.const (.bool true)) (.tmp 161)), 4, none⟩])
    (.cond (.tmp 162)
    (.seq (.reg [] [⟨some 6, (.assign (.const (.bool false))), 4, none⟩])
    .ret)
    .skip))
    (.seq (.seq (.reg [] [⟨some 163, (.move (.tmp 21)), 4, none⟩,
      ⟨some 164, (.move (.tmp 14)), 4, none⟩,
      ⟨some 165, (.unOp .not 4 (.tmp 164)), 4, none⟩,
      ⟨some 166, (.move (.tmp 165)), 4, none⟩,
      ⟨some 167, (.move (.tmp 16)), 45, some (166, true)⟩,
      ⟨some 168, (.call ⟨(.builtin .len), #[(.tmp 167)], #[45]⟩), 3, some (166, true)⟩,
      ⟨some 169, (.binOp .eql 3 (.tmp 168) (.const (.int .i64 1)) 3), 4, some (166, true)⟩,
      ⟨some 170, (.pick (.tmp 166) (.tmp 169) (.const (.bool false))), 4, none⟩,
      ⟨some 171, (.binOp .neq 4 (.tmp 163) (.tmp 170) 4), 4, none⟩,
      ⟨some 172, (.move (.tmp 171)), 4, none⟩,
      ⟨some 173, (.move (.tmp 21)), 4, some (172, false)⟩,
      ⟨some 174, (.move (.tmp 173)), 4, some (172, false)⟩,
      ⟨some 175, (.move (.tmp 20)), 22, some (174, true)⟩,
      ⟨some 176, (.move (.tmp 16)), 45, some (174, true)⟩,
      ⟨some 177, (.indexAddr 45 (.tmp 176) (.const (.int .i64 0))), 0, some (174, true)⟩,
      ⟨some 178, (.load 22 (.tmp 177)), 22, some (174, true)⟩,
      ⟨some 179, (.call ⟨(.value (.func 8)), #[(.tmp 175), (.tmp 178)], #[22, 22]⟩), 4, some (174, true)⟩,
      ⟨some 180, (.unOp .not 4 (.tmp 179)), 4, some (174, true)⟩,
      ⟨some 181, (.pick (.tmp 174) (.tmp 180) (.const (.bool false))), 4, some (172, false)⟩,
      ⟨some 182, (.pick (.tmp 172) (.const (.bool true)) (.tmp 181)), 4, none⟩,
      ⟨some 183, (.move (.tmp 182)), 4, none⟩,
      ⟨some 184, (.move (.tmp 18)), 4, some (183, false)⟩,
      ⟨some 185, (.move (.tmp 184)), 4, some (183, false)⟩,
      ⟨some 186, (.move (.tmp 14)), 4, some (185, true)⟩,
      ⟨some 187, (.unOp .not 4 (.tmp 186)), 4, some (185, true)⟩,
      ⟨some 188, (.pick (.tmp 185) (.tmp 187) (.const (.bool false))), 4, some (183, false)⟩,
      ⟨some 189, (.move (.tmp 188)), 4, some (183, false)⟩,
      ⟨some 190, (.move (.tmp 21)), 4, some (189, true)⟩,
      ⟨some 191, (.unOp .not 4 (.tmp 190)), 4, some (189, true)⟩,
      ⟨some 192, (.pick (.tmp 189) (.tmp 191) (.const (.bool false))), 4, some (183, false)⟩,
      ⟨some 193, (.pick (.tmp 183) (.const (.bool true)) (.tmp 192)), 4, none⟩])
    (.cond (.tmp 193)
    (.seq (.reg [] [⟨some 6, (.assign (.const (.bool false))), 4, none⟩])
    .ret)
    .skip))
    (.seq (.reg [] [⟨some 195, (.move (.tmp 0)), 41, none⟩,
      ⟨some 196, (.call ⟨(.value (.func 24)), #[(.tmp 195)], #[41]⟩), 38, none⟩,
      ⟨some 194, (.move (.tmp 196)), 38, none⟩,
      ⟨some 197, (.extract (.tmp 194) 0), 22, none⟩,
      ⟨some 198, (.extract (.tmp 194) 1), 4, none⟩,
      ⟨some 199, (.extract (.tmp 194) 2), 27, none⟩,
      ⟨some 23, (.assign (.tmp 197)), 22, none⟩,
      ⟨some 24, (.assign (.tmp 198)), 4, none⟩,
      ⟨some 11, (.assign (.tmp 199)), 27, none⟩])
    (.seq (.seq (.reg [] [⟨some 200, (.move (.tmp 11)), 27, none⟩,
      ⟨some 201, (.binOp .neq 27 (.tmp 200) (.const (.int .i64 0)) 27), 4, none⟩])
    (.cond (.tmp 201)
    (.seq (.reg [] [⟨some 6, (.assign (.const (.bool false))), 4, none⟩])
    .ret)
    .skip))
    (.seq (.seq (.reg [] [⟨some 202, (.move (.tmp 24)), 4, none⟩])
    (.cond (.tmp 202)
    (.seq (.reg [] [⟨some 204, (.move (.tmp 23)), 22, none⟩,
      ⟨some 205, (.move (.tmp 1)), 22, none⟩,
      ⟨some 206, (.call ⟨(.value (.func 25)), #[(.tmp 204), (.tmp 205)], #[22, 22]⟩), 51, none⟩,
      ⟨some 203, (.move (.tmp 206)), 51, none⟩,
      ⟨some 207, (.extract (.tmp 203) 0), 3, none⟩,
      ⟨some 208, (.extract (.tmp 203) 1), 27, none⟩,
      ⟨some 25, (.assign (.tmp 207)), 3, none⟩,
      ⟨some 26, (.assign (.tmp 208)), 27, none⟩])
    (.seq (.reg [] [⟨some 209, (.move (.tmp 26)), 27, none⟩,
      ⟨some 210, (.binOp .neq 27 (.tmp 209) (.const (.int .i64 0)) 27), 4, none⟩,
      ⟨some 211, (.move (.tmp 210)), 4, none⟩,
      ⟨some 212, (.move (.tmp 14)), 4, some (211, false)⟩,
      ⟨some 213, (.pick (.tmp 211) (.const (.bool true)) (.tmp 212)), 4, none⟩,
      ⟨some 214, (.move (.tmp 213)), 4, none⟩,
      ⟨some 215, (.move (.tmp 12)), 3, some (214, false)⟩,
      ⟨some 216, (.move (.tmp 25)), 3, some (214, false)⟩,
      ⟨some 217, (.binOp .gtr 3 (.tmp 215) (.tmp 216) 3), 4, some (214, false)⟩,
      ⟨some 218, (.pick (.tmp 214) (.const (.bool true)) (.tmp 217)), 4, none⟩,
      ⟨some 219, (.move (.tmp 218)), 4, none⟩,
      ⟨some 220, (.move (.tmp 0)), 41, some (219, false)⟩,
      ⟨some 221, (.move (.tmp 23)), 22, some (219, false)⟩,
      ⟨some 222, (.call ⟨(.value (.func 26)), #[(.tmp 220), (.tmp 221)], #[41, 22]⟩), 27, some (219, false)⟩,
      ⟨some 223, (.binOp .neq 27 (.tmp 222) (.const (.int .i64 0)) 27), 4, some (219, false)⟩,
      ⟨some 224, (.pick (.tmp 219) (.const (.bool true)) (.tmp 223)), 4, none⟩])
    (.cond (.tmp 224)
    (.seq (.reg [] [⟨some 6, (.assign (.const (.bool false))), 4, none⟩])
    .ret)
    .skip)))
    .skip))
    (.seq (.reg [] [⟨some 225, (.move (.tmp 10)), 45, none⟩,
      ⟨some 226, (.move (.tmp 2)), 3, none⟩,
      ⟨some 227, (.convert 3 54 (.tmp 226)), 54, none⟩,
      ⟨some 228, (.move (.tmp 10)), 45, none⟩,
      ⟨some 229, (.call ⟨(.builtin .len), #[(.tmp 228)], #[45]⟩), 3, none⟩,
      ⟨some 230, (.convert 3 54 (.tmp 229)), 54, none⟩,
      ⟨some 231, (.binOp .rem 54 (.tmp 227) (.tmp 230) 54), 54, none⟩,
      ⟨some 232, (.convert 54 3 (.tmp 231)), 3, none⟩,
      ⟨some 233, (.indexAddr 45 (.tmp 225) (.tmp 232)), 0, none⟩,
      ⟨some 234, (.load 22 (.tmp 233)), 22, none⟩,
      ⟨some 27, (.assign (.tmp 234)), 22, none⟩])
    (.seq (.reg [] [⟨some 236, (.move (.tmp 0)), 41, none⟩,
      ⟨some 237, (.move (.tmp 27)), 22, none⟩,
      ⟨some 238, (.call ⟨(.value (.func 27)), #[(.tmp 236), (.tmp 237)], #[41, 22]⟩), 46, none⟩,
      ⟨some 235, (.move (.tmp 238)), 46, none⟩,
      ⟨some 239, (.extract (.tmp 235) 0), 45, none⟩,
      ⟨some 240, (.extract (.tmp 235) 1), 27, none⟩,
      ⟨some 28, (.assign (.tmp 239)), 45, none⟩,
      ⟨some 11, (.assign (.tmp 240)), 27, none⟩])
    (.seq (.reg [] [⟨some 242, (.move (.tmp 0)), 41, none⟩,
      ⟨some 243, (.move (.tmp 27)), 22, none⟩,
      ⟨some 244, (.call ⟨(.value (.func 28)), #[(.tmp 242), (.tmp 243)], #[41, 22]⟩), 32, none⟩,
      ⟨some 241, (.move (.tmp 244)), 32, none⟩,
      ⟨some 245, (.extract (.tmp 241) 0), 4, none⟩,
      ⟨some 246, (.extract (.tmp 241) 1), 27, none⟩,
      ⟨some 29, (.assign (.tmp 245)), 4, none⟩,
      ⟨some 15, (.assign (.tmp 246)), 27, none⟩])
    (.seq (.reg [] [⟨some 248, (.move (.tmp 0)), 41, none⟩,
      ⟨some 249, (.move (.tmp 1)), 22, none⟩,
      ⟨some 250, (.move (.tmp 27)), 22, none⟩,
      ⟨some 251, (.call ⟨(.value (.func 29)), #[(.tmp 248), (.tmp 249), (.tmp 250)], #[41, 22, 22]⟩), 56, none⟩,
      ⟨some 247, (.move (.tmp 251)), 56, none⟩,
      ⟨some 252, (.extract (.tmp 247) 0), 55, none⟩,
      ⟨some 253, (.extract (.tmp 247) 1), 4, none⟩,
      ⟨some 254, (.extract (.tmp 247) 2), 27, none⟩,
      ⟨some 30, (.assign (.tmp 252)), 55, none⟩,
      ⟨some 31, (.assign (.tmp 253)), 4, none⟩,
      ⟨some 17, (.assign (.tmp 254)), 27, none⟩])
    (.seq (.seq (.reg [] [⟨some 255, (.move (.tmp 11)), 27, none⟩,
      ⟨some 256, (.binOp .neq 27 (.tmp 255) (.const (.int .i64 0)) 27), 4, none⟩,
      ⟨some 257, (.move (.tmp 256)), 4, none⟩,
      ⟨some 258, (.move (.tmp 15)), 27, some (257, false)⟩,
      ⟨some 259, (.binOp .neq 27 (.tmp 258) (.const (.int .i64 0)) 27), 4, some (257, false)⟩,
      ⟨some 260, (.pick (.tmp 257) (.const (.bool true)) (.tmp 259)), 4, none⟩,
      ⟨some 261, (.move (.tmp 260)), 4, none⟩,
      ⟨some 262, (.move (.tmp 17)), 27, some (261, false)⟩,
      ⟨some 263, (.binOp .neq 27 (.tmp 262) (.const (.int .i64 0)) 27), 4, some (261, false)⟩,
      ⟨some 264, (.pick (.tmp 261) (.const (.bool true)) (.tmp 263)), 4, none⟩,
      ⟨some 265, (.move (.tmp 264)), 4, none⟩,
      ⟨some 266, (.move (.tmp 29)), 4, some (265, false)⟩,
      ⟨some 267, (.move (.tmp 28)), 45, some (265, false)⟩,
      ⟨some 268, (.call ⟨(.builtin .len), #[(.tmp 267)], #[45]⟩), 3, some (265, false)⟩,
      ⟨some 269, (.binOp .eql 3 (.tmp 268) (.const (.int .i64 0)) 3), 4, some (265, false)⟩,
      ⟨some 270, (.binOp .neq 4 (.tmp 266) (.tmp 269) 4), 4, some (265, false)⟩,
      ⟨some 271, (.pick (.tmp 265) (.const (.bool true)) (.tmp 270)), 4, none⟩])
    (.cond (.tmp 271)
    (.seq (.reg [] [⟨some 6, (.assign (.const (.bool false))), 4, none⟩])
    .ret)
    .skip))
    (.seq (.seq (.reg [] [⟨some 32, (.assign (.const (.int .i64 0))), 3, none⟩])
    (.block 0 (.loop (.seq (.seq (.reg [] [⟨some 272, (.move (.tmp 32)), 3, none⟩,
      ⟨some 273, (.move (.tmp 28)), 45, none⟩,
      ⟨some 274, (.call ⟨(.builtin .len), #[(.tmp 273)], #[45]⟩), 3, none⟩,
      ⟨some 275, (.binOp .lss 3 (.tmp 272) (.tmp 274) 3), 4, none⟩])
    (.cond (.tmp 275)
    .skip
    (.exit 0)))
    (.seq (.block 1 (.seq (.reg [] [⟨some 33, (.assign (.const (.bool false))), 4, none⟩])
    (.seq (.seq (.reg [] [⟨some 34, (.assign (.const (.int .i64 0))), 3, none⟩])
    (.block 2 (.loop (.seq (.seq (.reg [] [⟨some 278, (.move (.tmp 34)), 3, none⟩,
      ⟨some 279, (.move (.tmp 10)), 45, none⟩,
      ⟨some 280, (.call ⟨(.builtin .len), #[(.tmp 279)], #[45]⟩), 3, none⟩,
      ⟨some 281, (.binOp .lss 3 (.tmp 278) (.tmp 280) 3), 4, none⟩])
    (.cond (.tmp 281)
    .skip
    (.exit 2)))
    (.seq (.block 3 (.draw [] [⟨some 284, (.move (.tmp 33)), 4, none⟩,
      ⟨some 285, (.move (.tmp 284)), 4, none⟩,
      ⟨some 286, (.move (.tmp 10)), 45, some (285, false)⟩,
      ⟨some 287, (.move (.tmp 34)), 3, some (285, false)⟩,
      ⟨some 288, (.indexAddr 45 (.tmp 286) (.tmp 287)), 0, some (285, false)⟩,
      ⟨some 289, (.load 22 (.tmp 288)), 22, some (285, false)⟩,
      ⟨some 290, (.move (.tmp 28)), 45, some (285, false)⟩,
      ⟨some 291, (.move (.tmp 32)), 3, some (285, false)⟩,
      ⟨some 292, (.indexAddr 45 (.tmp 290) (.tmp 291)), 0, some (285, false)⟩,
      ⟨some 293, (.load 22 (.tmp 292)), 22, some (285, false)⟩,
      ⟨some 294, (.call ⟨(.value (.func 8)), #[(.tmp 289), (.tmp 293)], #[22, 22]⟩), 4, some (285, false)⟩,
      ⟨some 295, (.pick (.tmp 285) (.const (.bool true)) (.tmp 294)), 4, none⟩,
      ⟨some 33, (.assign (.tmp 295)), 4, none⟩] [(2, 3), (2, 6), (3, 6), (4, 6), (5, 6), (2, 7), (3, 7), (4, 7), (5, 7), (6, 7), (2, 8), (3, 8), (4, 8), (5, 8), (2, 9), (3, 9), (4, 9), (5, 9)]))
    (.reg [] [⟨some 282, (.move (.tmp 34)), 3, none⟩,
      ⟨some 283, (.binOp .add 3 (.tmp 282) (.const (.int .i64 1)) 3), 3, none⟩,
      ⟨some 34, (.assign (.tmp 283)), 3, none⟩]))))))
    (.seq (.reg [] [⟨some 296, (.move (.tmp 33)), 4, none⟩,
      ⟨some 297, (.unOp .not 4 (.tmp 296)), 4, none⟩])
    (.cond (.tmp 297)
    (.seq (.reg [] [⟨some 6, (.assign (.const (.bool false))), 4, none⟩])
    .ret)
    .skip)))))
    (.reg [] [⟨some 276, (.move (.tmp 32)), 3, none⟩,
      ⟨some 277, (.binOp .add 3 (.tmp 276) (.const (.int .i64 1)) 3), 3, none⟩,
      ⟨some 32, (.assign (.tmp 277)), 3, none⟩]))))))
    (.seq (.seq (.reg [] [⟨some 298, (.move (.tmp 31)), 4, none⟩])
    (.cond (.tmp 298)
    (.seq (.reg [] [⟨some 300, (.move (.tmp 0)), 41, none⟩,
      ⟨some 301, (.move (.tmp 1)), 22, none⟩,
      ⟨some 302, (.move (.tmp 30)), 55, none⟩,
      ⟨some 303, (.call ⟨(.value (.func 30)), #[(.tmp 300), (.tmp 301), (.tmp 302)], #[41, 22, 55]⟩), 58, none⟩,
      ⟨some 299, (.move (.tmp 303)), 58, none⟩,
      ⟨some 304, (.extract (.tmp 299) 0), 22, none⟩,
      ⟨some 305, (.extract (.tmp 299) 1), 3, none⟩,
      ⟨some 306, (.extract (.tmp 299) 2), 27, none⟩,
      ⟨some 35, (.assign (.tmp 304)), 22, none⟩,
      ⟨some 36, (.assign (.tmp 305)), 3, none⟩,
      ⟨some 37, (.assign (.tmp 306)), 27, none⟩])
    (.seq (.reg [] [⟨some 308, (.move (.tmp 0)), 41, none⟩,
      ⟨some 309, (.move (.tmp 1)), 22, none⟩,
      ⟨some 310, (.move (.tmp 27)), 22, none⟩,
      ⟨some 311, (.call ⟨(.value (.func 31)), #[(.tmp 308), (.tmp 309), (.tmp 310)], #[41, 22, 22]⟩), 32, none⟩,
      ⟨some 307, (.move (.tmp 311)), 32, none⟩,
      ⟨some 312, (.extract (.tmp 307) 0), 4, none⟩,
      ⟨some 313, (.extract (.tmp 307) 1), 27, none⟩,
      ⟨some 38, (.assign (.tmp 312)), 4, none⟩,
      ⟨some 39, (.assign (.tmp 313)), 27, none⟩])
    (.seq (.reg [] [⟨some 314, (.move (.tmp 37)), 27, none⟩,
      ⟨some 315, (.binOp .neq 27 (.tmp 314) (.const (.int .i64 0)) 27), 4, none⟩,
      ⟨some 316, (.move (.tmp 315)), 4, none⟩,
      ⟨some 317, (.move (.tmp 36)), 3, some (316, false)⟩,
      ⟨some 318, (.move (.tmp 30)), 55, some (316, false)⟩,
      ⟨some 319, (.call ⟨(.builtin .len), #[(.tmp 318)], #[55]⟩), 3, some (316, false)⟩,
      ⟨some 320, (.binOp .neq 3 (.tmp 317) (.tmp 319) 3), 4, some (316, false)⟩,
      ⟨some 321, (.pick (.tmp 316) (.const (.bool true)) (.tmp 320)), 4, none⟩,
      ⟨some 322, (.move (.tmp 321)), 4, none⟩,
      ⟨some 323, (.move (.tmp 35)), 22, some (322, false)⟩,
      ⟨some 324, (.move (.tmp 27)), 22, some (322, false)⟩,
      ⟨some 325, (.call ⟨(.value (.func 8)), #[(.tmp 323), (.tmp 324)], #[22, 22]⟩), 4, some (322, false)⟩,
      ⟨some 326, (.unOp .not 4 (.tmp 325)), 4, some (322, false)⟩,
      ⟨some 327, (.pick (.tmp 322) (.const (.bool true)) (.tmp 326)), 4, none⟩,
      ⟨some 328, (.move (.tmp 327)), 4, none⟩,
      ⟨some 329, (.move (.tmp 39)), 27, some (328, false)⟩,
      ⟨some 330, (.binOp .neq 27 (.tmp 329) (.const (.int .i64 0)) 27), 4, some (328, false)⟩,
      ⟨some 331, (.pick (.tmp 328) (.const (.bool true)) (.tmp 330)), 4, none⟩,
      ⟨some 332, (.move (.tmp 331)), 4, none⟩,
      ⟨some 333, (.move (.tmp 38)), 4, some (332, false)⟩,
      ⟨some 334, (.unOp .not 4 (.tmp 333)), 4, some (332, false)⟩,
      ⟨some 335, (.pick (.tmp 332) (.const (.bool true)) (.tmp 334)), 4, none⟩,
      ⟨some 336, (.move (.tmp 335)), 4, none⟩,
      ⟨some 337, (.move (.tmp 13)), 4, some (336, false)⟩,
      ⟨some 338, (.move (.tmp 337)), 4, some (336, false)⟩,
      ⟨some 339, (.move (.tmp 36)), 3, some (338, true)⟩,
      ⟨some 340, (.move (.tmp 12)), 3, some (338, true)⟩,
      ⟨some 341, (.binOp .gtr 3 (.tmp 339) (.tmp 340) 3), 4, some (338, true)⟩,
      ⟨some 342, (.pick (.tmp 338) (.tmp 341) (.const (.bool false))), 4, some (336, false)⟩,
      ⟨some 343, (.pick (.tmp 336) (.const (.bool true)) (.tmp 342)), 4, none⟩])
    (.cond (.tmp 343)
    (.seq (.reg [] [⟨some 6, (.assign (.const (.bool false))), 4, none⟩])
    .ret)
    .skip))))
    .skip))
    (.seq (.reg [] [⟨some 345, (.move (.tmp 0)), 41, none⟩,
      ⟨some 346, (.move (.tmp 1)), 22, none⟩,
      ⟨some 347, (.call ⟨(.value (.func 32)), #[(.tmp 345), (.tmp 346)], #[41, 22]⟩), 28, none⟩,
      ⟨some 344, (.move (.tmp 347)), 28, none⟩,
      ⟨some 348, (.extract (.tmp 344) 0), 22, none⟩,
      ⟨some 349, (.extract (.tmp 344) 1), 27, none⟩,
      ⟨some 40, (.assign (.tmp 348)), 22, none⟩,
      ⟨some 11, (.assign (.tmp 349)), 27, none⟩])
    (.seq (.seq (.reg [] [⟨some 350, (.move (.tmp 11)), 27, none⟩,
      ⟨some 351, (.binOp .neq 27 (.tmp 350) (.const (.int .i64 0)) 27), 4, none⟩,
      ⟨some 352, (.move (.tmp 351)), 4, none⟩,
      ⟨some 353, (.move (.tmp 40)), 22, some (352, false)⟩,
      ⟨some 354, (.call ⟨(.builtin .len), #[(.tmp 353)], #[22]⟩), 3, some (352, false)⟩,
      ⟨some 355, (.move (.tmp 0)), 41, some (352, false)⟩,
      ⟨some 356, (.call ⟨(.builtin .len), #[(.tmp 355)], #[41]⟩), 3, some (352, false)⟩,
      ⟨some 357, (.binOp .gtr 3 (.tmp 354) (.tmp 356) 3), 4, some (352, false)⟩,
      ⟨some 358, (.pick (.tmp 352) (.const (.bool true)) (.tmp 357)), 4, none⟩])
    (.cond (.tmp 358)
    (.seq (.reg [] [⟨some 6, (.assign (.const (.bool false))), 4, none⟩])
    .ret)
    .skip))
    (.seq (.seq (.reg [] [⟨some 359, (.move (.tmp 40)), 22, none⟩,
      ⟨some 360, (.call ⟨(.builtin .len), #[(.tmp 359)], #[22]⟩), 3, none⟩,
      ⟨some 361, (.binOp .eql 3 (.tmp 360) (.const (.int .i64 0)) 3), 4, none⟩])
    (.cond (.tmp 361)
    (.seq (.reg [] [⟨some 6, (.assign (.const (.bool true))), 4, none⟩])
    .ret)
    .skip))
    (.seq (.reg [] [⟨some 363, (.move (.tmp 0)), 41, none⟩,
      ⟨some 364, (.move (.tmp 40)), 22, none⟩,
      ⟨some 365, (.move (.tmp 40)), 22, none⟩,
      ⟨some 366, (.call ⟨(.builtin .len), #[(.tmp 365)], #[22]⟩), 3, none⟩,
      ⟨some 367, (.binOp .sub 3 (.tmp 366) (.const (.int .i64 1)) 3), 3, none⟩,
      ⟨some 368, (.indexAddr 22 (.tmp 364) (.tmp 367)), 0, none⟩,
      ⟨some 369, (.load 3 (.tmp 368)), 3, none⟩,
      ⟨some 370, (.call ⟨(.value (.func 33)), #[(.tmp 363), (.tmp 369)], #[41, 3]⟩), 62, none⟩,
      ⟨some 362, (.move (.tmp 370)), 62, none⟩,
      ⟨some 371, (.extract (.tmp 362) 0), 41, none⟩,
      ⟨some 372, (.extract (.tmp 362) 1), 27, none⟩,
      ⟨some 41, (.assign (.tmp 371)), 41, none⟩,
      ⟨some 11, (.assign (.tmp 372)), 27, none⟩])
    (.seq (.reg [] [⟨some 374, (.move (.tmp 41)), 41, none⟩,
      ⟨some 375, (.move (.tmp 1)), 22, none⟩,
      ⟨some 376, (.call ⟨(.value (.func 19)), #[(.tmp 374), (.tmp 375)], #[41, 22]⟩), 46, none⟩,
      ⟨some 373, (.move (.tmp 376)), 46, none⟩,
      ⟨some 377, (.extract (.tmp 373) 0), 45, none⟩,
      ⟨some 378, (.extract (.tmp 373) 1), 27, none⟩,
      ⟨some 42, (.assign (.tmp 377)), 45, none⟩,
      ⟨some 15, (.assign (.tmp 378)), 27, none⟩])
    (.seq (.reg [] [⟨some 379, (.move (.tmp 11)), 27, none⟩,
      ⟨some 380, (.binOp .eql 27 (.tmp 379) (.const (.int .i64 0)) 27), 4, none⟩,
      ⟨some 381, (.move (.tmp 380)), 4, none⟩,
      ⟨some 382, (.move (.tmp 15)), 27, some (381, true)⟩,
      ⟨some 383, (.binOp .eql 27 (.tmp 382) (.const (.int .i64 0)) 27), 4, some (381, true)⟩,
      ⟨some 384, (.pick (.tmp 381) (.tmp 383) (.const (.bool false))), 4, none⟩,
      ⟨some 385, (.move (.tmp 384)), 4, none⟩,
      ⟨some 386, (.move (.tmp 42)), 45, some (385, true)⟩,
      ⟨some 387, (.move (.tmp 10)), 45, some (385, true)⟩,
      ⟨some 388, (.call ⟨(.value (.func 34)), #[(.tmp 386), (.tmp 387)], #[45, 45]⟩), 4, some (385, true)⟩,
      ⟨some 389, (.pick (.tmp 385) (.tmp 388) (.const (.bool false))), 4, none⟩,
      ⟨some 6, (.assign (.tmp 389)), 4, none⟩])
    .ret))))))))))))))))))))))))))))
theorem C4 {args : List AV} {r : AV} (hn : args.length ≤ 390) (h : vc Try.prog T [] A4 (Fin T [(.tmp 6)] r) ⟨envOf 0 args, []⟩) : CallP Try.prog 4 args r :=
  callP_of tok mixed Try.func4 (by kernel_rfl) (by kernel_rfl) (by kernel_rfl : Try.f4.ntmps = 390) (by kernel_rfl : Try.f4.body.bind (strip 390 (fun _ => [])) = some A4) hn h
def A17 : ACode :=
  (.seq (.reg [] [⟨some 4, (.assign (.const (.int .i64 0))), 3, none⟩,
      ⟨some 5, (.assign (.const (.bool false))), 4, none⟩,
      ⟨some 6, (.assign (.const (.int .i64 0))), 27, none⟩])
    (.seq (.reg [] [⟨some 12, (.move (.tmp 0)), 41, none⟩,
      ⟨some 13, (.move (.tmp 1)), 22, none⟩,
      ⟨some 14, (.call ⟨(.value (.func 56)), #[(.tmp 12), (.tmp 13)], #[41, 22]⟩), 87, none⟩,
      ⟨some 11, (.move (.tmp 14)), 87, none⟩,
      ⟨some 15, (.extract (.tmp 11) 0), 86, none⟩,
      ⟨some 16, (.extract (.tmp 11) 1), 27, none⟩,
      ⟨some 7, (.assign (.tmp 15)), 86, none⟩,
      ⟨some 8, (.assign (.tmp 16)), 27, none⟩])
    (.seq (.seq (.reg [] [⟨some 17, (.move (.tmp 8)), 27, none⟩,
      ⟨some 18, (.binOp .neq 27 (.tmp 17) (.const (.int .i64 0)) 27), 4, none⟩])
    (.cond (.tmp 18)
    (.seq (.reg [] [⟨some 19, (.move (.tmp 8)), 27, none⟩,
      ⟨some 4, (.assign (.const (.int .i64 0))), 3, none⟩,
      ⟨some 5, (.assign (.const (.bool false))), 4, none⟩,
      ⟨some 6, (.assign (.tmp 19)), 27, none⟩])
    .ret)
    .skip))
    (.seq (.reg [] [⟨some 21, (.move (.tmp 7)), 86, none⟩,
      ⟨some 22, (.call ⟨(.value (.func 57)), #[(.tmp 21)], #[86]⟩), 89, none⟩,
      ⟨some 20, (.move (.tmp 22)), 89, none⟩,
      ⟨some 23, (.extract (.tmp 20) 0), 3, none⟩,
      ⟨some 24, (.extract (.tmp 20) 1), 4, none⟩,
      ⟨some 9, (.assign (.tmp 23)), 3, none⟩,
      ⟨some 10, (.assign (.tmp 24)), 4, none⟩])
    (.seq (.reg [] [⟨some 25, (.move (.tmp 9)), 3, none⟩,
      ⟨some 26, (.move (.tmp 10)), 4, none⟩,
      ⟨some 4, (.assign (.tmp 25)), 3, none⟩,
      ⟨some 5, (.assign (.tmp 26)), 4, none⟩,
      ⟨some 6, (.assign (.const (.int .i64 0))), 27, none⟩])
    .ret)))))
theorem C17 {args : List AV} {r : AV} (hn : args.length ≤ 27) (h : vc Try.prog T [] A17 (Fin T [(.tmp 4), (.tmp 5), (.tmp 6)] r) ⟨envOf 0 args, []⟩) : CallP Try.prog 17 args r :=
  callP_of tok mixed Try.func17 (by kernel_rfl) (by kernel_rfl) (by kernel_rfl : Try.f17.ntmps = 27) (by kernel_rfl : Try.f17.body.bind (strip 27 (fun _ => [])) = some A17) hn h
def A20 : ACode :=
  (.seq (.reg [] [⟨some 4, (.assign (.const (.bool false))), 4, none⟩,
      ⟨some 5, (.assign (.const (.int .i64 0))), 27, none⟩])
    (.seq (.reg [] [⟨some 11, (.move (.tmp 0)), 41, none⟩,
      ⟨some 12, (.move (.tmp 1)), 22, none⟩,
      ⟨some 13, (.call ⟨(.value (.func 56)), #[(.tmp 11), (.tmp 12)], #[41, 22]⟩), 87, none⟩,
      ⟨some 10, (.move (.tmp 13)), 87, none⟩,
      ⟨some 14, (.extract (.tmp 10) 0), 86, none⟩,
      ⟨some 15, (.extract (.tmp 10) 1), 27, none⟩,
      ⟨some 6, (.assign (.tmp 14)), 86, none⟩,
      ⟨some 7, (.assign (.tmp 15)), 27, none⟩])
    (.seq (.seq (.reg [] [⟨some 16, (.move (.tmp 7)), 27, none⟩,
      ⟨some 17, (.binOp .neq 27 (.tmp 16) (.const (.int .i64 0)) 27), 4, none⟩])
    (.cond (.tmp 17)
    (.seq (.reg [] [⟨some 18, (.move (.tmp 7)), 27, none⟩,
      ⟨some 4, (.assign (.const (.bool false))), 4, none⟩,
      ⟨some 5, (.assign (.tmp 18)), 27, none⟩])
    .ret)
    .skip))
    (.seq (.reg [] [⟨some 20, (.move (.tmp 6)), 86, none⟩,
      ⟨some 21, (.call ⟨(.value (.func 57)), #[(.tmp 20)], #[86]⟩), 89, none⟩,
      ⟨some 19, (.move (.tmp 21)), 89, none⟩,
      ⟨some 22, (.extract (.tmp 19) 0), 3, none⟩,
      ⟨some 23, (.extract (.tmp 19) 1), 4, none⟩,
      ⟨some 8, (.assign (.tmp 22)), 3, none⟩,
      ⟨some 9, (.assign (.tmp 23)), 4, none⟩])
    (.seq (.reg [] [⟨some 24, (.move (.tmp 9)), 4, none⟩,
      ⟨some 25, (.unOp .not 4 (.tmp 24)), 4, none⟩,
      ⟨some 4, (.assign (.tmp 25)), 4, none⟩,
      ⟨some 5, (.assign (.const (.int .i64 0))), 27, none⟩])
    .ret)))))
theorem C20 {args : List AV} {r : AV} (hn : args.length ≤ 26) (h : vc Try.prog T [] A20 (Fin T [(.tmp 4), (.tmp 5)] r) ⟨envOf 0 args, []⟩) : CallP Try.prog 20 args r :=
  callP_of tok mixed Try.func20 (by kernel_rfl) (by kernel_rfl) (by kernel_rfl : Try.f20.ntmps = 26) (by kernel_rfl : Try.f20.body.bind (strip 26 (fun _ => [])) = some A20) hn h
def A22 : ACode :=
  (.seq (.reg [] [⟨some 4, (.assign (.const (.bool false))), 4, none⟩,
      ⟨some 5, (.assign (.const (.int .i64 0))), 27, none⟩])
    (.seq (.reg [] [⟨some 20, (.move (.tmp 0)), 41, none⟩,
      ⟨some 21, (.move (.tmp 1)), 22, none⟩,
      ⟨some 22, (.call ⟨(.value (.func 56)), #[(.tmp 20), (.tmp 21)], #[41, 22]⟩), 87, none⟩,
      ⟨some 19, (.move (.tmp 22)), 87, none⟩,
      ⟨some 23, (.extract (.tmp 19) 0), 86, none⟩,
      ⟨some 24, (.extract (.tmp 19) 1), 27, none⟩,
      ⟨some 6, (.assign (.tmp 23)), 86, none⟩,
      ⟨some 7, (.assign (.tmp 24)), 27, none⟩])
    (.seq (.seq (.reg [] [⟨some 25, (.move (.tmp 7)), 27, none⟩,
      ⟨some 26, (.binOp .neq 27 (.tmp 25) (.const (.int .i64 0)) 27), 4, none⟩])
    (.cond (.tmp 26)
    (.seq (.reg [] [⟨some 27, (.move (.tmp 7)), 27, none⟩,
      ⟨some 4, (.assign (.const (.bool false))), 4, none⟩,
      ⟨some 5, (.assign (.tmp 27)), 27, none⟩])
    .ret)
    .skip))
    (.seq (.reg [] [⟨some 28, (.move (.tmp 6)), 86, none⟩,
      ⟨some 29, (.nilCheck (.tmp 28)), 0, none⟩,
      ⟨some 30, (.fieldAddr 93 (.tmp 29) 1), 0, none⟩,
      ⟨some 31, (.load 45 (.tmp 30)), 45, none⟩,
      ⟨some 32, (.call ⟨(.builtin .len), #[(.tmp 31)], #[45]⟩), 3, none⟩,
      ⟨some 33, (.makeSlice 45 (.tmp 32) (.tmp 32)), 45, none⟩,
      ⟨some 8, (.assign (.tmp 33)), 45, none⟩])
    (.seq (.seq (.reg [] [⟨some 34, (.move (.tmp 6)), 86, none⟩,
      ⟨some 35, (.nilCheck (.tmp 34)), 0, none⟩,
      ⟨some 36, (.fieldAddr 93 (.tmp 35) 1), 0, none⟩,
      ⟨some 37, (.load 45 (.tmp 36)), 45, none⟩,
      ⟨some 38, (.call ⟨(.builtin .len), #[(.tmp 37)], #[45]⟩), 3, none⟩,
      ⟨some 39, (.move (.const (.int .i64 0))), 3, none⟩])
    (.block 0 (.loop (.seq (.reg [] [⟨some 40, (.binOp .lss 3 (.tmp 39) (.tmp 38) 3), 0, none⟩])
    (.seq (.cond (.tmp 40)
    .skip
    (.exit 0))
    (.seq (.block 1 (.seq (.reg [] [⟨some 41, (.move (.tmp 39)), 3, none⟩,
      ⟨some 42, (.indexAddr 45 (.tmp 37) (.tmp 39)), 0, none⟩,
      ⟨some 43, (.load 22 (.tmp 42)), 22, none⟩,
      ⟨some 9, (.assign (.tmp 41)), 3, none⟩,
      ⟨some 10, (.assign (.tmp 43)), 22, none⟩])
    (.seq (.reg [] [⟨some 44, (.move (.tmp 0)), 41, none⟩,
      ⟨some 45, (.move (.tmp 10)), 22, none⟩,
      ⟨some 46, (.call ⟨(.value (.func 60)), #[(.tmp 44), (.tmp 45)], #[41, 22]⟩), 45, none⟩,
      ⟨some 47, (.call ⟨(.builtin .len), #[(.tmp 46)], #[45]⟩), 3, none⟩,
      ⟨some 48, (.move (.const (.int .i64 0))), 3, none⟩])
    (.block 2 (.loop (.seq (.reg [] [⟨some 49, (.binOp .lss 3 (.tmp 48) (.tmp 47) 3), 0, none⟩])
    (.seq (.cond (.tmp 49)
    .skip
    (.exit 2))
    (.seq (.block 3 (.seq (.reg [] [⟨some 50, (.indexAddr 45 (.tmp 46) (.tmp 48)), 0, none⟩,
      ⟨some 51, (.load 22 (.tmp 50)), 22, none⟩,
      ⟨some 12, (.assign (.tmp 51)), 22, none⟩])
    (.draw [] [⟨some 52, (.move (.tmp 8)), 45, none⟩,
      ⟨some 53, (.move (.tmp 9)), 3, none⟩,
      ⟨some 54, (.move (.tmp 8)), 45, none⟩,
      ⟨some 55, (.move (.tmp 9)), 3, none⟩,
      ⟨some 56, (.indexAddr 45 (.tmp 54) (.tmp 55)), 0, none⟩,
      ⟨some 57, (.load 22 (.tmp 56)), 22, none⟩,
      ⟨some 58, (.move (.tmp 6)), 86, none⟩,
      ⟨some 59, (.nilCheck (.tmp 58)), 0, none⟩,
      ⟨some 60, (.fieldAddr 93 (.tmp 59) 2), 0, none⟩,
      ⟨some 61, (.load 91 (.tmp 60)), 91, none⟩,
      ⟨some 62, (.move (.tmp 12)), 22, none⟩,
      ⟨some 63, (.call ⟨(.value (.func 61)), #[(.tmp 62)], #[22]⟩), 9, none⟩,
      ⟨some 64, (.lookup 91 (.tmp 61) (.tmp 63) false), 3, none⟩,
      ⟨some 65, (.buildSlice 22 1 #[(0, (.tmp 64))]), 22, none⟩,
      ⟨some 66, (.call ⟨(.builtin .append), #[(.tmp 57), (.tmp 65)], #[22, 22]⟩), 22, none⟩,
      ⟨some 67, (.indexAddr 45 (.tmp 52) (.tmp 53)), 0, none⟩,
      ⟨none, (.store 22 (.tmp 67) (.tmp 66)), 0, none⟩] [(0, 1), (0, 2), (1, 2), (0, 3), (1, 3), (2, 3), (0, 4), (1, 4), (0, 5), (1, 5), (0, 6), (1, 6), (2, 6), (3, 6), (4, 6), (5, 6), (0, 7), (1, 7), (2, 7), (3, 7), (4, 7), (5, 7), (0, 8), (1, 8), (2, 8), (3, 8), (4, 8), (5, 8), (0, 9), (1, 9), (2, 9), (3, 9), (4, 9), (5, 9), (0, 10), (1, 10), (2, 10), (3, 10), (4, 10), (5, 10), (6, 10), (7, 10), (8, 10), (9, 10), (0, 11), (1, 11), (2, 11), (3, 11), (4, 11), (5, 11), (6, 11), (7, 11), (8, 11), (9, 11), (0, 12), (1, 12), (2, 12), (3, 12), (4, 12), (5, 12), (0, 13), (1, 13), (2, 13), (3, 13), (4, 13), (5, 13), (0, 14), (1, 14)])))
    (.reg [] [⟨some 68, (.binOp .add 3 (.tmp 48) (.const (.int .i64 1)) 3), 3, none⟩,
      ⟨some 48, (.move (.tmp 68)), 3, none⟩])))))))))
    (.reg [] [⟨some 69, (.binOp .add 3 (.tmp 39) (.const (.int .i64 1)) 3), 3, none⟩,
      ⟨some 39, (.move (.tmp 69)), 3, none⟩])))))))
    (.seq (.reg [] [⟨some 70, (.move (.tmp 6)), 86, none⟩,
      ⟨some 71, (.nilCheck (.tmp 70)), 0, none⟩,
      ⟨some 72, (.fieldAddr 93 (.tmp 71) 1), 0, none⟩,
      ⟨some 73, (.load 45 (.tmp 72)), 45, none⟩,
      ⟨some 74, (.call ⟨(.builtin .len), #[(.tmp 73)], #[45]⟩), 3, none⟩,
      ⟨some 75, (.makeSlice 98 (.tmp 74) (.tmp 74)), 98, none⟩,
      ⟨some 13, (.assign (.tmp 75)), 98, none⟩])
    (.seq (.seq (.reg [] [⟨some 76, (.move (.tmp 13)), 98, none⟩,
      ⟨some 77, (.call ⟨(.builtin .len), #[(.tmp 76)], #[98]⟩), 3, none⟩,
      ⟨some 78, (.move (.const (.int .i64 0))), 3, none⟩])
    (.block 4 (.loop (.seq (.reg [] [⟨some 79, (.binOp .lss 3 (.tmp 78) (.tmp 77) 3), 0, none⟩])
    (.seq (.cond (.tmp 79)
    .skip
    (.exit 4))
    (.seq (.block 5 (.seq (.reg [] [⟨some 80, (.move (.tmp 78)), 3, none⟩,
      ⟨some 14, (.assign (.tmp 80)), 3, none⟩])
    (.reg [] [⟨some 81, (.move (.tmp 13)), 98, none⟩,
      ⟨some 82, (.move (.tmp 14)), 3, none⟩,
      ⟨some 83, (.move (.tmp 8)), 45, none⟩,
      ⟨some 84, (.move (.tmp 14)), 3, none⟩,
      ⟨some 85, (.call ⟨(.value (.func 62)), #[(.tmp 83), (.tmp 84)], #[45, 3]⟩), 99, none⟩,
      ⟨some 86, (.indexAddr 98 (.tmp 81) (.tmp 82)), 0, none⟩,
      ⟨none, (.store 99 (.tmp 86) (.tmp 85)), 0, none⟩])))
    (.reg [] [⟨some 87, (.binOp .add 3 (.tmp 78) (.const (.int .i64 1)) 3), 3, none⟩,
      ⟨some 78, (.move (.tmp 87)), 3, none⟩])))))))
    (.seq (.seq (.reg [] [⟨some 88, (.move (.tmp 8)), 45, none⟩,
      ⟨some 89, (.call ⟨(.builtin .len), #[(.tmp 88)], #[45]⟩), 3, none⟩,
      ⟨some 90, (.move (.const (.int .i64 0))), 3, none⟩])
    (.block 6 (.loop (.seq (.reg [] [⟨some 91, (.binOp .lss 3 (.tmp 90) (.tmp 89) 3), 0, none⟩])
    (.seq (.cond (.tmp 91)
    .skip
    (.exit 6))
    (.seq (.block 7 (.seq (.reg [] [⟨some 92, (.indexAddr 45 (.tmp 88) (.tmp 90)), 0, none⟩,
      ⟨some 93, (.load 22 (.tmp 92)), 22, none⟩,
      ⟨some 16, (.assign (.tmp 93)), 22, none⟩])
    (.seq (.reg [] [⟨some 94, (.move (.tmp 16)), 22, none⟩,
      ⟨some 95, (.call ⟨(.builtin .len), #[(.tmp 94)], #[22]⟩), 3, none⟩,
      ⟨some 96, (.move (.const (.int .i64 0))), 3, none⟩])
    (.block 8 (.loop (.seq (.reg [] [⟨some 97, (.binOp .lss 3 (.tmp 96) (.tmp 95) 3), 0, none⟩])
    (.seq (.cond (.tmp 97)
    .skip
    (.exit 8))
    (.seq (.block 9 (.seq (.reg [] [⟨some 98, (.move (.tmp 96)), 3, none⟩,
      ⟨some 17, (.assign (.tmp 98)), 3, none⟩])
    (.seq (.reg [] [⟨some 99, (.move (.tmp 17)), 3, none⟩,
      ⟨some 100, (.move (.const (.int .i64 0))), 3, none⟩])
    (.block 10 (.loop (.seq (.reg [] [⟨some 101, (.binOp .lss 3 (.tmp 100) (.tmp 99) 3), 4, none⟩])
    (.seq (.cond (.tmp 101)
    .skip
    (.exit 10))
    (.seq (.block 11 (.seq (.reg [] [⟨some 102, (.move (.tmp 100)), 3, none⟩,
      ⟨some 18, (.assign (.tmp 102)), 3, none⟩])
    (.seq (.draw [] [⟨some 103, (.move (.tmp 13)), 98, none⟩,
      ⟨some 104, (.move (.tmp 16)), 22, none⟩,
      ⟨some 105, (.move (.tmp 17)), 3, none⟩,
      ⟨some 106, (.indexAddr 22 (.tmp 104) (.tmp 105)), 0, none⟩,
      ⟨some 107, (.load 3 (.tmp 106)), 3, none⟩,
      ⟨some 108, (.indexAddr 98 (.tmp 103) (.tmp 107)), 0, none⟩,
      ⟨some 109, (.load 99 (.tmp 108)), 99, none⟩,
      ⟨some 110, (.move (.tmp 13)), 98, none⟩,
      ⟨some 111, (.move (.tmp 16)), 22, none⟩,
      ⟨some 112, (.move (.tmp 18)), 3, none⟩,
      ⟨some 113, (.indexAddr 22 (.tmp 111) (.tmp 112)), 0, none⟩,
      ⟨some 114, (.load 3 (.tmp 113)), 3, none⟩,
      ⟨some 115, (.indexAddr 98 (.tmp 110) (.tmp 114)), 0, none⟩,
      ⟨some 116, (.load 99 (.tmp 115)), 99, none⟩,
      ⟨some 117, (.call ⟨(.value (.func 63)), #[(.tmp 109), (.tmp 116)], #[99, 99]⟩), 4, none⟩,
      ⟨some 118, (.unOp .not 4 (.tmp 117)), 4, none⟩] [(0, 1), (0, 2), (1, 2), (0, 3), (0, 4), (0, 7), (1, 7), (2, 7), (3, 7), (4, 7), (5, 7), (6, 7), (0, 8), (1, 8), (2, 8), (3, 8), (4, 8), (5, 8), (6, 8), (7, 8), (0, 9), (1, 9), (2, 9), (3, 9), (4, 9), (5, 9), (6, 9), (7, 9), (8, 9), (0, 10), (1, 10), (2, 10), (3, 10), (4, 10), (5, 10), (6, 10), (7, 10), (0, 11), (1, 11), (2, 11), (3, 11), (4, 11), (5, 11), (6, 11), (7, 11), (0, 12), (1, 12), (2, 12), (3, 12), (4, 12), (5, 12), (6, 12), (0, 13), (1, 13), (2, 13), (3, 13), (4, 13), (5, 13), (6, 13)])
    (.cond (.tmp 118)
    (.seq (.reg [] [⟨some 4, (.assign (.const (.bool false))), 4, none⟩,
      ⟨some 5, (.assign (.const (.int .i64 0))), 27, none⟩])
    .ret)
    .skip))))
    (.reg [] [⟨some 119, (.binOp .add 3 (.tmp 100) (.const (.int .i64 1)) 3), 3, none⟩,
      ⟨some 100, (.move (.tmp 119)), 3, none⟩])))))))))
    (.reg [] [⟨some 120, (.binOp .add 3 (.tmp 96) (.const (.int .i64 1)) 3), 3, none⟩,
      ⟨some 96, (.move (.tmp 120)), 3, none⟩])))))))))
    (.reg [] [⟨some 121, (.binOp .add 3 (.tmp 90) (.const (.int .i64 1)) 3), 3, none⟩,
      ⟨some 90, (.move (.tmp 121)), 3, none⟩])))))))
    (.seq (.reg [] [⟨some 4, (.assign (.const (.bool true))), 4, none⟩,
      ⟨some 5, (.assign (.const (.int .i64 0))), 27, none⟩])
    .ret)))))))))
theorem C22 {args : List AV} {r : AV} (hn : args.length ≤ 122) (h : vc Try.prog T [] A22 (Fin T [(.tmp 4), (.tmp 5)] r) ⟨envOf 0 args, []⟩) : CallP Try.prog 22 args r :=
  callP_of tok mixed Try.func22 (by kernel_rfl) (by kernel_rfl) (by kernel_rfl : Try.f22.ntmps = 122) (by kernel_rfl : Try.f22.body.bind (strip 122 (fun _ => [])) = some A22) hn h
def A23 : ACode :=
  (.seq (.reg [] [⟨some 4, (.assign (.const (.slice none 0 0))), 22, none⟩,
      ⟨some 5, (.assign (.const (.bool false))), 4, none⟩,
      ⟨some 6, (.assign (.const (.int .i64 0))), 27, none⟩])
    (.seq (.reg [] [⟨some 13, (.move (.tmp 0)), 41, none⟩,
      ⟨some 14, (.move (.tmp 1)), 22, none⟩,
      ⟨some 15, (.call ⟨(.value (.func 56)), #[(.tmp 13), (.tmp 14)], #[41, 22]⟩), 87, none⟩,
      ⟨some 12, (.move (.tmp 15)), 87, none⟩,
      ⟨some 16, (.extract (.tmp 12) 0), 86, none⟩,
      ⟨some 17, (.extract (.tmp 12) 1), 27, none⟩,
      ⟨some 7, (.assign (.tmp 16)), 86, none⟩,
      ⟨some 8, (.assign (.tmp 17)), 27, none⟩])
    (.seq (.seq (.reg [] [⟨some 18, (.move (.tmp 8)), 27, none⟩,
      ⟨some 19, (.binOp .neq 27 (.tmp 18) (.const (.int .i64 0)) 27), 4, none⟩])
    (.cond (.tmp 19)
    (.seq (.reg [] [⟨some 20, (.move (.tmp 8)), 27, none⟩,
      ⟨some 4, (.assign (.const (.slice none 0 0))), 22, none⟩,
      ⟨some 5, (.assign (.const (.bool false))), 4, none⟩,
      ⟨some 6, (.assign (.tmp 20)), 27, none⟩])
    .ret)
    .skip))
    (.seq (.reg [] [⟨some 21, (.move (.tmp 7)), 86, none⟩,
      ⟨some 22, (.call ⟨(.value (.func 59)), #[(.tmp 21)], #[86]⟩), 45, none⟩,
      ⟨some 9, (.assign (.tmp 22)), 45, none⟩])
    (.seq (.seq (.reg [] [⟨some 24, (.move (.tmp 7)), 86, none⟩,
      ⟨some 25, (.call ⟨(.value (.func 57)), #[(.tmp 24)], #[86]⟩), 89, none⟩,
      ⟨some 23, (.move (.tmp 25)), 89, none⟩,
      ⟨some 26, (.extract (.tmp 23) 0), 3, none⟩,
      ⟨some 27, (.extract (.tmp 23) 1), 4, none⟩,
      ⟨some 10, (.assign (.tmp 26)), 3, none⟩,
      ⟨some 11, (.assign (.tmp 27)), 4, none⟩])
    (.seq (.reg [] [⟨some 28, (.move (.tmp 11)), 4, none⟩,
      ⟨some 29, (.unOp .not 4 (.tmp 28)), 4, none⟩,
      ⟨some 30, (.move (.tmp 29)), 4, none⟩,
      ⟨some 31, (.move (.tmp 9)), 45, some (30, false)⟩,
      ⟨some 32, (.call ⟨(.builtin .len), #[(.tmp 31)], #[45]⟩), 3, some (30, false)⟩,
      ⟨some 33, (.binOp .neq 3 (.tmp 32) (.const (.int .i64 1)) 3), 4, some (30, false)⟩,
      ⟨some 34, (.pick (.tmp 30) (.const (.bool true)) (.tmp 33)), 4, none⟩])
    (.cond (.tmp 34)
    (.seq (.reg [] [⟨some 4, (.assign (.const (.slice none 0 0))), 22, none⟩,
      ⟨some 5, (.assign (.const (.bool false))), 4, none⟩,
      ⟨some 6, (.assign (.const (.int .i64 0))), 27, none⟩])
    .ret)
    .skip)))
    (.seq (.reg [] [⟨some 35, (.move (.tmp 9)), 45, none⟩,
      ⟨some 36, (.indexAddr 45 (.tmp 35) (.const (.int .i64 0))), 0, none⟩,
      ⟨some 37, (.load 22 (.tmp 36)), 22, none⟩,
      ⟨some 4, (.assign (.tmp 37)), 22, none⟩,
      ⟨some 5, (.assign (.const (.bool true))), 4, none⟩,
      ⟨some 6, (.assign (.const (.int .i64 0))), 27, none⟩])
    .ret))))))
theorem C23 {args : List AV} {r : AV} (hn : args.length ≤ 38) (h : vc Try.prog T [] A23 (Fin T [(.tmp 4), (.tmp 5), (.tmp 6)] r) ⟨envOf 0 args, []⟩) : CallP Try.prog 23 args r :=
  callP_of tok mixed Try.func23 (by kernel_rfl) (by kernel_rfl) (by kernel_rfl : Try.f23.ntmps = 38) (by kernel_rfl : Try.f23.body.bind (strip 38 (fun _ => [])) = some A23) hn h
def A29 : ACode :=
  (.seq (.reg [] [⟨some 6, (.assign (.const (.slice none 0 0))), 55, none⟩,
      ⟨some 7, (.assign (.const (.bool false))), 4, none⟩,
      ⟨some 8, (.assign (.const (.int .i64 0))), 27, none⟩])
    (.seq (.seq (.reg [] [⟨some 15, (.move (.tmp 0)), 41, none⟩,
      ⟨some 16, (.move (.tmp 1)), 22, none⟩,
      ⟨some 17, (.move (.tmp 2)), 22, none⟩,
      ⟨some 18, (.buildSlice 45 2 #[(0, (.tmp 16)), (1, (.tmp 17))]), 45, none⟩,
      ⟨some 19, (.call ⟨(.value (.func 67)), #[(.tmp 15), (.tmp 18)], #[41, 45]⟩), 27, none⟩,
      ⟨some 9, (.assign (.tmp 19)), 27, none⟩])
    (.seq (.reg [] [⟨some 20, (.move (.tmp 9)), 27, none⟩,
      ⟨some 21, (.binOp .neq 27 (.tmp 20) (.const (.int .i64 0)) 27), 4, none⟩])
    (.cond (.tmp 21)
    (.seq (.reg [] [⟨some 22, (.move (.tmp 9)), 27, none⟩,
      ⟨some 6, (.assign (.const (.slice none 0 0))), 55, none⟩,
      ⟨some 7, (.assign (.const (.bool false))), 4, none⟩,
      ⟨some 8, (.assign (.tmp 22)), 27, none⟩])
    .ret)
    .skip)))
    (.seq (.reg [] [⟨some 24, (.move (.tmp 0)), 41, none⟩,
      ⟨some 25, (.move (.tmp 1)), 22, none⟩,
      ⟨some 26, (.call ⟨(.value (.func 69)), #[(.tmp 24), (.tmp 25)], #[41, 22]⟩), 87, none⟩,
      ⟨some 23, (.move (.tmp 26)), 87, none⟩,
      ⟨some 27, (.extract (.tmp 23) 0), 86, none⟩,
      ⟨some 28, (.extract (.tmp 23) 1), 27, none⟩,
      ⟨some 10, (.assign (.tmp 27)), 86, none⟩,
      ⟨some 11, (.assign (.tmp 28)), 27, none⟩])
    (.seq (.seq (.reg [] [⟨some 29, (.move (.tmp 11)), 27, none⟩,
      ⟨some 30, (.binOp .neq 27 (.tmp 29) (.const (.int .i64 0)) 27), 4, none⟩])
    (.cond (.tmp 30)
    (.seq (.reg [] [⟨some 31, (.move (.tmp 11)), 27, none⟩,
      ⟨some 6, (.assign (.const (.slice none 0 0))), 55, none⟩,
      ⟨some 7, (.assign (.const (.bool false))), 4, none⟩,
      ⟨some 8, (.assign (.tmp 31)), 27, none⟩])
    .ret)
    .skip))
    (.seq (.draw [] [⟨some 33, (.move (.tmp 10)), 86, none⟩,
      ⟨some 34, (.nilCheck (.tmp 33)), 0, none⟩,
      ⟨some 35, (.fieldAddr 93 (.tmp 34) 2), 0, none⟩,
      ⟨some 36, (.load 91 (.tmp 35)), 91, none⟩,
      ⟨some 37, (.move (.tmp 2)), 22, none⟩,
      ⟨some 38, (.call ⟨(.value (.func 61)), #[(.tmp 37)], #[22]⟩), 9, none⟩,
      ⟨some 39, (.lookup 91 (.tmp 36) (.tmp 38) true), 89, none⟩,
      ⟨some 32, (.move (.tmp 39)), 89, none⟩,
      ⟨some 40, (.extract (.tmp 32) 0), 3, none⟩,
      ⟨some 41, (.extract (.tmp 32) 1), 4, none⟩,
      ⟨some 12, (.assign (.tmp 40)), 3, none⟩,
      ⟨some 13, (.assign (.tmp 41)), 4, none⟩] [(0, 4), (1, 4), (2, 4), (3, 4), (0, 5), (1, 5), (2, 5), (3, 5), (8, 9), (9, 10)])
    (.seq (.seq (.reg [] [⟨some 42, (.move (.tmp 13)), 4, none⟩,
      ⟨some 43, (.unOp .not 4 (.tmp 42)), 4, none⟩])
    (.cond (.tmp 43)
    (.seq (.reg [] [⟨some 6, (.assign (.const (.slice none 0 0))), 55, none⟩,
      ⟨some 7, (.assign (.const (.bool false))), 4, none⟩,
      ⟨some 8, (.assign (.const (.int .i64 0))), 27, none⟩])
    .ret)
    .skip))
    (.seq (.reg [] [⟨some 14, (.assign (.const (.slice none 0 0))), 55, none⟩])
    (.seq (.block 0 (.loop (.seq (.seq (.reg [] [⟨some 44, (.move (.tmp 10)), 86, none⟩,
      ⟨some 45, (.nilCheck (.tmp 44)), 0, none⟩,
      ⟨some 46, (.fieldAddr 93 (.tmp 45) 3), 0, none⟩,
      ⟨some 47, (.load 22 (.tmp 46)), 22, none⟩,
      ⟨some 48, (.move (.tmp 12)), 3, none⟩,
      ⟨some 49, (.indexAddr 22 (.tmp 47) (.tmp 48)), 0, none⟩,
      ⟨some 50, (.load 3 (.tmp 49)), 3, none⟩,
      ⟨some 51, (.binOp .geq 3 (.tmp 50) (.const (.int .i64 0)) 3), 4, none⟩])
    (.cond (.tmp 51)
    .skip
    (.exit 0)))
    (.seq (.block 1 (.reg [] [⟨some 59, (.move (.tmp 14)), 55, none⟩,
      ⟨some 60, (.move (.tmp 10)), 86, none⟩,
      ⟨some 61, (.nilCheck (.tmp 60)), 0, none⟩,
      ⟨some 62, (.fieldAddr 93 (.tmp 61) 4), 0, none⟩,
      ⟨some 63, (.load 55 (.tmp 62)), 55, none⟩,
      ⟨some 64, (.move (.tmp 12)), 3, none⟩,
      ⟨some 65, (.indexAddr 55 (.tmp 63) (.tmp 64)), 0, none⟩,
      ⟨some 66, (.load 108 (.tmp 65)), 108, none⟩,
      ⟨some 67, (.buildSlice 55 1 #[(0, (.tmp 66))]), 55, none⟩,
      ⟨some 68, (.call ⟨(.builtin .append), #[(.tmp 59), (.tmp 67)], #[55, 55]⟩), 55, none⟩,
      ⟨some 14, (.assign (.tmp 68)), 55, none⟩]))
    (.reg [] [⟨some 52, (.move (.tmp 10)), 86, none⟩,
      ⟨some 53, (.nilCheck (.tmp 52)), 0, none⟩,
      ⟨some 54, (.fieldAddr 93 (.tmp 53) 3), 0, none⟩,
      ⟨some 55, (.load 22 (.tmp 54)), 22, none⟩,
      ⟨some 56, (.move (.tmp 12)), 3, none⟩,
      ⟨some 57, (.indexAddr 22 (.tmp 55) (.tmp 56)), 0, none⟩,
      ⟨some 58, (.load 3 (.tmp 57)), 3, none⟩,
      ⟨some 12, (.assign (.tmp 58)), 3, none⟩])))))
    (.seq (.seq (.reg [] [⟨some 69, (.move (.tmp 14)), 55, none⟩,
      ⟨some 70, (.call ⟨(.builtin .len), #[(.tmp 69)], #[55]⟩), 3, none⟩,
      ⟨some 71, (.binOp .gtr 3 (.tmp 70) (.const (.int .i64 60)) 3), 4, none⟩])
    (.cond (.tmp 71)
    (.seq (.reg [] [⟨some 6, (.assign (.const (.slice none 0 0))), 55, none⟩,
      ⟨some 7, (.assign (.const (.bool false))), 4, none⟩,
      ⟨some 8, (.assign (.const (.int .i64 0))), 27, none⟩])
    .ret)
    .skip))
    (.seq (.reg [] [⟨some 72, (.move (.tmp 14)), 55, none⟩,
      ⟨some 73, (.call ⟨(.value (.func 70)), #[(.tmp 72)], #[55]⟩), 0, none⟩])
    (.seq (.reg [] [⟨some 74, (.move (.tmp 14)), 55, none⟩,
      ⟨some 6, (.assign (.tmp 74)), 55, none⟩,
      ⟨some 7, (.assign (.const (.bool true))), 4, none⟩,
      ⟨some 8, (.assign (.const (.int .i64 0))), 27, none⟩])
    .ret)))))))))))
theorem C29 {args : List AV} {r : AV} (hn : args.length ≤ 75) (h : vc Try.prog T [] A29 (Fin T [(.tmp 6), (.tmp 7), (.tmp 8)] r) ⟨envOf 0 args, []⟩) : CallP Try.prog 29 args r :=
  callP_of tok mixed Try.func29 (by kernel_rfl) (by kernel_rfl) (by kernel_rfl : Try.f29.ntmps = 75) (by kernel_rfl : Try.f29.body.bind (strip 75 (fun _ => [])) = some A29) hn h
def A30 : ACode :=
  (.seq (.reg [] [⟨some 6, (.assign (.const (.slice none 0 0))), 22, none⟩,
      ⟨some 7, (.assign (.const (.int .i64 0))), 3, none⟩,
      ⟨some 8, (.assign (.const (.int .i64 0))), 27, none⟩])
    (.seq (.seq (.reg [] [⟨some 14, (.move (.tmp 0)), 41, none⟩,
      ⟨some 15, (.move (.tmp 1)), 22, none⟩,
      ⟨some 16, (.buildSlice 45 1 #[(0, (.tmp 15))]), 45, none⟩,
      ⟨some 17, (.call ⟨(.value (.func 67)), #[(.tmp 14), (.tmp 16)], #[41, 45]⟩), 27, none⟩,
      ⟨some 9, (.assign (.tmp 17)), 27, none⟩])
    (.seq (.reg [] [⟨some 18, (.move (.tmp 9)), 27, none⟩,
      ⟨some 19, (.binOp .neq 27 (.tmp 18) (.const (.int .i64 0)) 27), 4, none⟩])
    (.cond (.tmp 19)
    (.seq (.reg [] [⟨some 20, (.move (.tmp 9)), 27, none⟩,
      ⟨some 6, (.assign (.const (.slice none 0 0))), 22, none⟩,
      ⟨some 7, (.assign (.const (.int .i64 0))), 3, none⟩,
      ⟨some 8, (.assign (.tmp 20)), 27, none⟩])
    .ret)
    .skip)))
    (.seq (.seq (.reg [] [⟨some 21, (.move (.tmp 2)), 55, none⟩,
      ⟨some 22, (.call ⟨(.builtin .len), #[(.tmp 21)], #[55]⟩), 3, none⟩,
      ⟨some 23, (.binOp .gtr 3 (.tmp 22) (.const (.int .i64 60)) 3), 4, none⟩])
    (.cond (.tmp 23)
    (.seq (.reg [] [⟨some 6, (.assign (.const (.slice none 0 0))), 22, none⟩,
      ⟨some 7, (.assign (.const (.int .i64 0))), 3, none⟩,
      ⟨some 8, (.assign (.const (.int .i64 3))), 27, none⟩])
    .ret)
    .skip))
    (.seq (.reg [] [⟨some 24, (.move (.tmp 1)), 22, none⟩,
      ⟨some 25, (.call ⟨(.value (.func 50)), #[(.tmp 24)], #[22]⟩), 22, none⟩,
      ⟨some 1, (.assign (.tmp 25)), 22, none⟩])
    (.seq (.seq (.reg [] [⟨some 26, (.move (.tmp 2)), 55, none⟩,
      ⟨some 27, (.call ⟨(.builtin .len), #[(.tmp 26)], #[55]⟩), 3, none⟩,
      ⟨some 28, (.move (.const (.int .i64 0))), 3, none⟩])
    (.block 0 (.loop (.seq (.reg [] [⟨some 29, (.binOp .lss 3 (.tmp 28) (.tmp 27) 3), 0, none⟩])
    (.seq (.cond (.tmp 29)
    .skip
    (.exit 0))
    (.seq (.block 1 (.seq (.reg [] [⟨some 30, (.move (.tmp 28)), 3, none⟩,
      ⟨some 31, (.indexAddr 55 (.tmp 26) (.tmp 28)), 0, none⟩,
      ⟨some 32, (.load 108 (.tmp 31)), 108, none⟩,
      ⟨some 11, (.alloc 108), 0, none⟩,
      ⟨some 10, (.assign (.tmp 30)), 3, none⟩,
      ⟨none, (.store 108 (.tmp 11) (.tmp 32)), 0, none⟩])
    (.seq (.seq (.reg [] [⟨some 33, (.fieldAddr 108 (.tmp 11) 0), 0, none⟩,
      ⟨some 34, (.load 3 (.tmp 33)), 3, none⟩,
      ⟨some 35, (.move (.tmp 0)), 41, none⟩,
      ⟨some 36, (.call ⟨(.builtin .len), #[(.tmp 35)], #[41]⟩), 3, none⟩,
      ⟨some 37, (.binOp .sub 3 (.tmp 36) (.const (.int .i64 1)) 3), 3, none⟩,
      ⟨some 38, (.call ⟨(.value (.func 71)), #[(.tmp 34), (.const (.int .i64 0)), (.tmp 37)], #[3, 3, 3]⟩), 4, none⟩,
      ⟨some 39, (.unOp .not 4 (.tmp 38)), 4, none⟩])
    (.cond (.tmp 39)
    (.seq (.reg [] [⟨some 40, (.move (.tmp 10)), 3, none⟩,
      ⟨some 6, (.assign (.const (.slice none 0 0))), 22, none⟩,
      ⟨some 7, (.assign (.tmp 40)), 3, none⟩,
      ⟨some 8, (.assign (.const (.int .i64 4))), 27, none⟩])
    .ret)
    .skip))
    (.seq (.draw [] [⟨some 42, (.move (.tmp 0)), 41, none⟩,
      ⟨some 43, (.fieldAddr 108 (.tmp 11) 0), 0, none⟩,
      ⟨some 44, (.load 3 (.tmp 43)), 3, none⟩,
      ⟨some 45, (.indexAddr 41 (.tmp 42) (.tmp 44)), 0, none⟩,
      ⟨some 46, (.load 24 (.tmp 45)), 24, none⟩,
      ⟨some 47, (.move (.tmp 1)), 22, none⟩,
      ⟨some 48, (.fieldAddr 108 (.tmp 11) 1), 0, none⟩,
      ⟨some 49, (.load 3 (.tmp 48)), 3, none⟩,
      ⟨some 50, (.call ⟨(.value (.func 72)), #[(.tmp 46), (.tmp 47), (.tmp 49)], #[24, 22, 3]⟩), 28, none⟩,
      ⟨some 41, (.move (.tmp 50)), 28, none⟩,
      ⟨some 51, (.extract (.tmp 41) 0), 22, none⟩,
      ⟨some 52, (.extract (.tmp 41) 1), 27, none⟩,
      ⟨some 12, (.assign (.tmp 51)), 22, none⟩,
      ⟨some 13, (.assign (.tmp 52)), 27, none⟩] [(0, 1), (0, 2), (0, 5), (1, 5), (2, 5), (3, 5), (4, 5), (0, 6), (1, 6), (2, 6), (3, 6), (4, 6), (5, 6), (0, 7), (1, 7), (2, 7), (3, 7), (4, 7), (5, 7), (10, 11), (11, 12)])
    (.seq (.seq (.reg [] [⟨some 53, (.move (.tmp 13)), 27, none⟩,
      ⟨some 54, (.binOp .neq 27 (.tmp 53) (.const (.int .i64 0)) 27), 4, none⟩])
    (.cond (.tmp 54)
    (.seq (.reg [] [⟨some 55, (.move (.tmp 10)), 3, none⟩,
      ⟨some 6, (.assign (.const (.slice none 0 0))), 22, none⟩,
      ⟨some 7, (.assign (.tmp 55)), 3, none⟩,
      ⟨some 8, (.assign (.const (.int .i64 6))), 27, none⟩])
    .ret)
    .skip))
    (.reg [] [⟨some 56, (.move (.tmp 12)), 22, none⟩,
      ⟨some 1, (.assign (.tmp 56)), 22, none⟩]))))))
    (.reg [] [⟨some 57, (.binOp .add 3 (.tmp 28) (.const (.int .i64 1)) 3), 3, none⟩,
      ⟨some 28, (.move (.tmp 57)), 3, none⟩])))))))
    (.seq (.reg [] [⟨some 58, (.move (.tmp 1)), 22, none⟩,
      ⟨some 59, (.move (.tmp 2)), 55, none⟩,
      ⟨some 60, (.call ⟨(.builtin .len), #[(.tmp 59)], #[55]⟩), 3, none⟩,
      ⟨some 6, (.assign (.tmp 58)), 22, none⟩,
      ⟨some 7, (.assign (.tmp 60)), 3, none⟩,
      ⟨some 8, (.assign (.const (.int .i64 0))), 27, none⟩])
    .ret))))))
theorem C30 {args : List AV} {r : AV} (hn : args.length ≤ 61) (h : vc Try.prog T [] A30 (Fin T [(.tmp 6), (.tmp 7), (.tmp 8)] r) ⟨envOf 0 args, []⟩) : CallP Try.prog 30 args r :=
  callP_of tok mixed Try.func30 (by kernel_rfl) (by kernel_rfl) (by kernel_rfl : Try.f30.ntmps = 61) (by kernel_rfl : Try.f30.body.bind (strip 61 (fun _ => [])) = some A30) hn h
def A31 : ACode :=
  (.seq (.reg [] [⟨some 6, (.assign (.const (.bool false))), 4, none⟩,
      ⟨some 7, (.assign (.const (.int .i64 0))), 27, none⟩])
    (.seq (.seq (.reg [] [⟨some 12, (.move (.tmp 0)), 41, none⟩,
      ⟨some 13, (.move (.tmp 1)), 22, none⟩,
      ⟨some 14, (.move (.tmp 2)), 22, none⟩,
      ⟨some 15, (.buildSlice 45 2 #[(0, (.tmp 13)), (1, (.tmp 14))]), 45, none⟩,
      ⟨some 16, (.call ⟨(.value (.func 67)), #[(.tmp 12), (.tmp 15)], #[41, 45]⟩), 27, none⟩,
      ⟨some 8, (.assign (.tmp 16)), 27, none⟩])
    (.seq (.reg [] [⟨some 17, (.move (.tmp 8)), 27, none⟩,
      ⟨some 18, (.binOp .neq 27 (.tmp 17) (.const (.int .i64 0)) 27), 4, none⟩])
    (.cond (.tmp 18)
    (.seq (.reg [] [⟨some 19, (.move (.tmp 8)), 27, none⟩,
      ⟨some 6, (.assign (.const (.bool false))), 4, none⟩,
      ⟨some 7, (.assign (.tmp 19)), 27, none⟩])
    .ret)
    .skip)))
    (.seq (.reg [] [⟨some 21, (.move (.tmp 0)), 41, none⟩,
      ⟨some 22, (.move (.tmp 1)), 22, none⟩,
      ⟨some 23, (.call ⟨(.value (.func 69)), #[(.tmp 21), (.tmp 22)], #[41, 22]⟩), 87, none⟩,
      ⟨some 20, (.move (.tmp 23)), 87, none⟩,
      ⟨some 24, (.extract (.tmp 20) 0), 86, none⟩,
      ⟨some 25, (.extract (.tmp 20) 1), 27, none⟩,
      ⟨some 9, (.assign (.tmp 24)), 86, none⟩,
      ⟨some 10, (.assign (.tmp 25)), 27, none⟩])
    (.seq (.seq (.reg [] [⟨some 26, (.move (.tmp 10)), 27, none⟩,
      ⟨some 27, (.binOp .neq 27 (.tmp 26) (.const (.int .i64 0)) 27), 4, none⟩])
    (.cond (.tmp 27)
    (.seq (.reg [] [⟨some 28, (.move (.tmp 10)), 27, none⟩,
      ⟨some 6, (.assign (.const (.bool false))), 4, none⟩,
      ⟨some 7, (.assign (.tmp 28)), 27, none⟩])
    .ret)
    .skip))
    (.seq (.reg [] [⟨some 30, (.move (.tmp 0)), 41, none⟩,
      ⟨some 31, (.move (.tmp 2)), 22, none⟩,
      ⟨some 32, (.call ⟨(.value (.func 69)), #[(.tmp 30), (.tmp 31)], #[41, 22]⟩), 87, none⟩,
      ⟨some 29, (.move (.tmp 32)), 87, none⟩,
      ⟨some 33, (.extract (.tmp 29) 0), 86, none⟩,
      ⟨some 34, (.extract (.tmp 29) 1), 27, none⟩,
      ⟨some 11, (.assign (.tmp 33)), 86, none⟩,
      ⟨some 10, (.assign (.tmp 34)), 27, none⟩])
    (.seq (.seq (.reg [] [⟨some 35, (.move (.tmp 10)), 27, none⟩,
      ⟨some 36, (.binOp .neq 27 (.tmp 35) (.const (.int .i64 0)) 27), 4, none⟩])
    (.cond (.tmp 36)
    (.seq (.reg [] [⟨some 37, (.move (.tmp 10)), 27, none⟩,
      ⟨some 6, (.assign (.const (.bool false))), 4, none⟩,
      ⟨some 7, (.assign (.tmp 37)), 27, none⟩])
    .ret)
    .skip))
    (.seq (.reg [] [⟨some 38, (.move (.tmp 9)), 86, none⟩,
      ⟨some 39, (.move (.tmp 11)), 86, none⟩,
      ⟨some 40, (.call ⟨(.value (.func 73)), #[(.tmp 38), (.tmp 39)], #[86, 86]⟩), 4, none⟩,
      ⟨some 6, (.assign (.tmp 40)), 4, none⟩,
      ⟨some 7, (.assign (.const (.int .i64 0))), 27, none⟩])
    .ret)))))))
theorem C31 {args : List AV} {r : AV} (hn : args.length ≤ 41) (h : vc Try.prog T [] A31 (Fin T [(.tmp 6), (.tmp 7)] r) ⟨envOf 0 args, []⟩) : CallP Try.prog 31 args r :=
  callP_of tok mixed Try.func31 (by kernel_rfl) (by kernel_rfl) (by kernel_rfl : Try.f31.ntmps = 41) (by kernel_rfl : Try.f31.body.bind (strip 41 (fun _ => [])) = some A31) hn h
def A32 : ACode :=
  (.seq (.reg [] [⟨some 4, (.assign (.const (.slice none 0 0))), 22, none⟩,
      ⟨some 5, (.assign (.const (.int .i64 0))), 27, none⟩])
    (.seq (.reg [] [⟨some 17, (.move (.tmp 0)), 41, none⟩,
      ⟨some 18, (.move (.tmp 1)), 22, none⟩,
      ⟨some 19, (.call ⟨(.value (.func 56)), #[(.tmp 17), (.tmp 18)], #[41, 22]⟩), 87, none⟩,
      ⟨some 16, (.move (.tmp 19)), 87, none⟩,
      ⟨some 20, (.extract (.tmp 16) 0), 86, none⟩,
      ⟨some 21, (.extract (.tmp 16) 1), 27, none⟩,
      ⟨some 6, (.assign (.tmp 20)), 86, none⟩,
      ⟨some 7, (.assign (.tmp 21)), 27, none⟩])
    (.seq (.seq (.reg [] [⟨some 22, (.move (.tmp 7)), 27, none⟩,
      ⟨some 23, (.binOp .neq 27 (.tmp 22) (.const (.int .i64 0)) 27), 4, none⟩])
    (.cond (.tmp 23)
    (.seq (.reg [] [⟨some 24, (.move (.tmp 7)), 27, none⟩,
      ⟨some 4, (.assign (.const (.slice none 0 0))), 22, none⟩,
      ⟨some 5, (.assign (.tmp 24)), 27, none⟩])
    .ret)
    .skip))
    (.seq (.reg [] [⟨some 25, (.move (.tmp 0)), 41, none⟩,
      ⟨some 26, (.call ⟨(.builtin .len), #[(.tmp 25)], #[41]⟩), 3, none⟩,
      ⟨some 27, (.makeSlice 99 (.tmp 26) (.tmp 26)), 99, none⟩,
      ⟨some 8, (.assign (.tmp 27)), 99, none⟩])
    (.seq (.seq (.reg [] [⟨some 28, (.move (.tmp 6)), 86, none⟩,
      ⟨some 29, (.nilCheck (.tmp 28)), 0, none⟩,
      ⟨some 30, (.fieldAddr 93 (.tmp 29) 1), 0, none⟩,
      ⟨some 31, (.load 45 (.tmp 30)), 45, none⟩,
      ⟨some 32, (.call ⟨(.builtin .len), #[(.tmp 31)], #[45]⟩), 3, none⟩,
      ⟨some 33, (.move (.const (.int .i64 0))), 3, none⟩])
    (.block 0 (.loop (.seq (.reg [] [⟨some 34, (.binOp .lss 3 (.tmp 33) (.tmp 32) 3), 0, none⟩])
    (.seq (.cond (.tmp 34)
    .skip
    (.exit 0))
    (.seq (.block 1 (.seq (.reg [] [⟨some 35, (.indexAddr 45 (.tmp 31) (.tmp 33)), 0, none⟩,
      ⟨some 36, (.load 22 (.tmp 35)), 22, none⟩,
      ⟨some 10, (.assign (.tmp 36)), 22, none⟩])
    (.seq (.reg [] [⟨some 37, (.move (.tmp 0)), 41, none⟩,
      ⟨some 38, (.move (.tmp 10)), 22, none⟩,
      ⟨some 39, (.call ⟨(.value (.func 68)), #[(.tmp 37), (.tmp 38)], #[41, 22]⟩), 105, none⟩,
      ⟨some 40, (.call ⟨(.builtin .len), #[(.tmp 39)], #[105]⟩), 3, none⟩,
      ⟨some 41, (.move (.const (.int .i64 0))), 3, none⟩])
    (.block 2 (.loop (.seq (.reg [] [⟨some 42, (.binOp .lss 3 (.tmp 41) (.tmp 40) 3), 0, none⟩])
    (.seq (.cond (.tmp 42)
    .skip
    (.exit 2))
    (.seq (.block 3 (.seq (.reg [] [⟨some 43, (.indexAddr 105 (.tmp 39) (.tmp 41)), 0, none⟩,
      ⟨some 44, (.load 114 (.tmp 43)), 114, none⟩,
      ⟨some 12, (.alloc 114), 0, none⟩,
      ⟨none, (.store 114 (.tmp 12) (.tmp 44)), 0, none⟩])
    (.reg [] [⟨some 45, (.move (.tmp 8)), 99, none⟩,
      ⟨some 46, (.fieldAddr 114 (.tmp 12) 0), 0, none⟩,
      ⟨some 47, (.fieldAddr 108 (.tmp 46) 0), 0, none⟩,
      ⟨some 48, (.load 3 (.tmp 47)), 3, none⟩,
      ⟨some 49, (.indexAddr 99 (.tmp 45) (.tmp 48)), 0, none⟩,
      ⟨none, (.store 4 (.tmp 49) (.const (.bool true))), 0, none⟩])))
    (.reg [] [⟨some 50, (.binOp .add 3 (.tmp 41) (.const (.int .i64 1)) 3), 3, none⟩,
      ⟨some 41, (.move (.tmp 50)), 3, none⟩])))))))))
    (.reg [] [⟨some 51, (.binOp .add 3 (.tmp 33) (.const (.int .i64 1)) 3), 3, none⟩,
      ⟨some 33, (.move (.tmp 51)), 3, none⟩])))))))
    (.seq (.reg [] [⟨some 13, (.assign (.const (.slice none 0 0))), 22, none⟩])
    (.seq (.seq (.reg [] [⟨some 52, (.move (.tmp 8)), 99, none⟩,
      ⟨some 53, (.call ⟨(.builtin .len), #[(.tmp 52)], #[99]⟩), 3, none⟩,
      ⟨some 54, (.move (.const (.int .i64 0))), 3, none⟩])
    (.block 4 (.loop (.seq (.reg [] [⟨some 55, (.binOp .lss 3 (.tmp 54) (.tmp 53) 3), 0, none⟩])
    (.seq (.cond (.tmp 55)
    .skip
    (.exit 4))
    (.seq (.block 5 (.seq (.reg [] [⟨some 56, (.move (.tmp 54)), 3, none⟩,
      ⟨some 57, (.indexAddr 99 (.tmp 52) (.tmp 54)), 0, none⟩,
      ⟨some 58, (.load 4 (.tmp 57)), 4, none⟩,
      ⟨some 14, (.assign (.tmp 56)), 3, none⟩,
      ⟨some 15, (.assign (.tmp 58)), 4, none⟩])
    (.seq (.reg [] [⟨some 59, (.move (.tmp 15)), 4, none⟩,
      ⟨some 60, (.unOp .not 4 (.tmp 59)), 4, none⟩])
    (.cond (.tmp 60)
    (.reg [] [⟨some 61, (.move (.tmp 13)), 22, none⟩,
      ⟨some 62, (.move (.tmp 14)), 3, none⟩,
      ⟨some 63, (.buildSlice 22 1 #[(0, (.tmp 62))]), 22, none⟩,
      ⟨some 64, (.call ⟨(.builtin .append), #[(.tmp 61), (.tmp 63)], #[22, 22]⟩), 22, none⟩,
      ⟨some 13, (.assign (.tmp 64)), 22, none⟩])
    .skip))))
    (.reg [] [⟨some 65, (.binOp .add 3 (.tmp 54) (.const (.int .i64 1)) 3), 3, none⟩,
      ⟨some 54, (.move (.tmp 65)), 3, none⟩])))))))
    (.seq (.reg [] [⟨some 66, (.move (.tmp 13)), 22, none⟩,
      ⟨some 4, (.assign (.tmp 66)), 22, none⟩,
      ⟨some 5, (.assign (.const (.int .i64 0))), 27, none⟩])
    .ret))))))))
theorem C32 {args : List AV} {r : AV} (hn : args.length ≤ 67) (h : vc Try.prog T [] A32 (Fin T [(.tmp 4), (.tmp 5)] r) ⟨envOf 0 args, []⟩) : CallP Try.prog 32 args r :=
  callP_of tok mixed Try.func32 (by kernel_rfl) (by kernel_rfl) (by kernel_rfl : Try.f32.ntmps = 67) (by kernel_rfl : Try.f32.body.bind (strip 67 (fun _ => [])) = some A32) hn h
def A33 : ACode :=
  (.seq (.reg [] [⟨some 4, (.assign (.const (.slice none 0 0))), 41, none⟩,
      ⟨some 5, (.assign (.const (.int .i64 0))), 27, none⟩])
    (.seq (.seq (.reg [] [⟨some 10, (.move (.tmp 0)), 41, none⟩,
      ⟨some 11, (.call ⟨(.value (.func 64)), #[(.tmp 10)], #[41]⟩), 27, none⟩,
      ⟨some 6, (.assign (.tmp 11)), 27, none⟩])
    (.seq (.reg [] [⟨some 12, (.move (.tmp 6)), 27, none⟩,
      ⟨some 13, (.binOp .neq 27 (.tmp 12) (.const (.int .i64 0)) 27), 4, none⟩])
    (.cond (.tmp 13)
    (.seq (.reg [] [⟨some 14, (.move (.tmp 6)), 27, none⟩,
      ⟨some 4, (.assign (.const (.slice none 0 0))), 41, none⟩,
      ⟨some 5, (.assign (.tmp 14)), 27, none⟩])
    .ret)
    .skip)))
    (.seq (.seq (.reg [] [⟨some 15, (.move (.tmp 1)), 3, none⟩,
      ⟨some 16, (.move (.tmp 0)), 41, none⟩,
      ⟨some 17, (.call ⟨(.builtin .len), #[(.tmp 16)], #[41]⟩), 3, none⟩,
      ⟨some 18, (.binOp .sub 3 (.tmp 17) (.const (.int .i64 1)) 3), 3, none⟩,
      ⟨some 19, (.call ⟨(.value (.func 71)), #[(.tmp 15), (.const (.int .i64 0)), (.tmp 18)], #[3, 3, 3]⟩), 4, none⟩,
      ⟨some 20, (.unOp .not 4 (.tmp 19)), 4, none⟩])
    (.cond (.tmp 20)
    (.seq (.reg [] [⟨some 4, (.assign (.const (.slice none 0 0))), 41, none⟩,
      ⟨some 5, (.assign (.const (.int .i64 4))), 27, none⟩])
    .ret)
    .skip))
    (.seq (.reg [] [⟨some 7, (.assign (.const (.slice none 0 0))), 41, none⟩])
    (.seq (.seq (.reg [] [⟨some 21, (.move (.tmp 0)), 41, none⟩,
      ⟨some 22, (.call ⟨(.builtin .len), #[(.tmp 21)], #[41]⟩), 3, none⟩,
      ⟨some 23, (.move (.const (.int .i64 0))), 3, none⟩])
    (.block 0 (.loop (.seq (.reg [] [⟨some 24, (.binOp .lss 3 (.tmp 23) (.tmp 22) 3), 0, none⟩])
    (.seq (.cond (.tmp 24)
    .skip
    (.exit 0))
    (.seq (.block 1 (.seq (.reg [] [⟨some 25, (.move (.tmp 23)), 3, none⟩,
      ⟨some 26, (.indexAddr 41 (.tmp 21) (.tmp 23)), 0, none⟩,
      ⟨some 27, (.load 24 (.tmp 26)), 24, none⟩,
      ⟨some 9, (.alloc 24), 0, none⟩,
      ⟨some 8, (.assign (.tmp 25)), 3, none⟩,
      ⟨none, (.store 24 (.tmp 9) (.tmp 27)), 0, none⟩])
    (.seq (.reg [] [⟨some 28, (.move (.tmp 8)), 3, none⟩,
      ⟨some 29, (.move (.tmp 1)), 3, none⟩,
      ⟨some 30, (.binOp .neq 3 (.tmp 28) (.tmp 29) 3), 4, none⟩])
    (.cond (.tmp 30)
    (.draw [] [⟨some 31, (.move (.tmp 7)), 41, none⟩,
      ⟨some 32, (.fieldAddr 24 (.tmp 9) 0), 0, none⟩,
      ⟨some 33, (.load 3 (.tmp 32)), 3, none⟩,
      ⟨some 34, (.fieldAddr 24 (.tmp 9) 1), 0, none⟩,
      ⟨some 35, (.load 22 (.tmp 34)), 22, none⟩,
      ⟨some 36, (.call ⟨(.value (.func 50)), #[(.tmp 35)], #[22]⟩), 22, none⟩,
      ⟨some 37, (.fieldAddr 24 (.tmp 9) 2), 0, none⟩,
      ⟨some 38, (.load 22 (.tmp 37)), 22, none⟩,
      ⟨some 39, (.call ⟨(.value (.func 50)), #[(.tmp 38)], #[22]⟩), 22, none⟩,
      ⟨some 40, (.fieldAddr 24 (.tmp 9) 3), 0, none⟩,
      ⟨some 41, (.load 22 (.tmp 40)), 22, none⟩,
      ⟨some 42, (.call ⟨(.value (.func 50)), #[(.tmp 41)], #[22]⟩), 22, none⟩,
      ⟨some 43, (.build 24 #[(0, (.tmp 33)), (1, (.tmp 36)), (2, (.tmp 39)), (3, (.tmp 42))]), 24, none⟩,
      ⟨some 44, (.buildSlice 41 1 #[(0, (.tmp 43))]), 41, none⟩,
      ⟨some 45, (.call ⟨(.builtin .append), #[(.tmp 31), (.tmp 44)], #[41, 41]⟩), 41, none⟩,
      ⟨some 7, (.assign (.tmp 45)), 41, none⟩] [(0, 1), (0, 2), (0, 3), (1, 3), (2, 3), (0, 4), (1, 4), (2, 4), (0, 5), (1, 5), (2, 5), (0, 6), (1, 6), (2, 6), (3, 6), (4, 6), (5, 6), (0, 7), (1, 7), (2, 7), (3, 7), (4, 7), (5, 7), (0, 8), (1, 8), (2, 8), (0, 9), (1, 9), (2, 9), (3, 9), (4, 9), (5, 9), (6, 9), (7, 9), (8, 9), (0, 10), (1, 10), (2, 10), (3, 10), (4, 10), (5, 10), (6, 10), (7, 10), (8, 10), (0, 11), (1, 11), (2, 11), (0, 12), (0, 13)])
    .skip))))
    (.reg [] [⟨some 46, (.binOp .add 3 (.tmp 23) (.const (.int .i64 1)) 3), 3, none⟩,
      ⟨some 23, (.move (.tmp 46)), 3, none⟩])))))))
    (.seq (.reg [] [⟨some 47, (.move (.tmp 7)), 41, none⟩,
      ⟨some 4, (.assign (.tmp 47)), 41, none⟩,
      ⟨some 5, (.assign (.const (.int .i64 0))), 27, none⟩])
    .ret))))))
theorem C33 {args : List AV} {r : AV} (hn : args.length ≤ 48) (h : vc Try.prog T [] A33 (Fin T [(.tmp 4), (.tmp 5)] r) ⟨envOf 0 args, []⟩) : CallP Try.prog 33 args r :=
  callP_of tok mixed Try.func33 (by kernel_rfl) (by kernel_rfl) (by kernel_rfl : Try.f33.ntmps = 48) (by kernel_rfl : Try.f33.body.bind (strip 48 (fun _ => [])) = some A33) hn h
end Go.Proofs.Ytkhddecnllcaiaa
end

section
/- Contracts: a product of which one is one; slices.Repeat of one number. -/
namespace Go.Proofs.Ytkhddecnllcaiaa
open Go.Abs Go
set_option maxRecDepth 20000
set_option maxHeartbeats 2000000
attribute [local irreducible] PreK CondK CallK CallG CallX LoopK
attribute [local simp] avsEq avEq akind teq vkind vEq T_54

def uv (n : Int) : AV := .raw (.int .u64 n)
theorem Mul64_c (n : Nat) (h : n ≤ 1000) : CallP Try.prog 121 [uv 1, uv n] (.tup [uv 0, uv n]) := by
  refine C121 (by simp) ?_
  have h1 : n &&& 4294967295 = n := by
    have := Nat.and_two_pow_sub_one_eq_mod n 32
    rw [show (2 : Nat) ^ 32 - 1 = 4294967295 by decide] at this
    rw [this]
    exact Nat.mod_eq_of_lt (by omega)
  have h2 : Int.fdiv (n : Int) 4294967296 = 0 := by
    rw [Int.fdiv_eq_ediv_of_nonneg _ (by decide)]
    omega
  simp [A121, uv]
  repeat (refine PreK.intro (by first | omega | (intros; first | omega | (refine ⟨by omega, ?_⟩; simp_all; done) | (simp_all; done) | (simp_all; omega))) fun _ => ?_; (try simp [h1, h2]))
theorem Mul_c (n : Nat) (h : n ≤ 1000) : CallP Try.prog 111 [uv 1, uv n] (.tup [uv 0, uv n]) := by
  refine C111 (by simp) ?_
  have := Mul64_c n h
  simp only [uv] at this ⊢
  simp [A111]
  refine CondK.intro (fun h1 => ?_) (fun h1 => ?_)
  · cases h1
  · try simp 
    repeat' (first
      | (refine CallX.pure (this) (by simp) (by simp) ?_; try simp )
      | (refine CallK.intro (this) (by simp) (by simp) ?_; try simp )
      | (refine CallG.intro (fun _ => this) (by simp) (by simp) ?_; try simp )
      | ((with_reducible refine PreK.intro ?_ ?_); (next => (first | omega | (intros; first | omega | (refine ⟨by omega, ?_⟩; repeat (first | assumption | constructor)) | assumption))); intro _; try simp )
      | fail)
/-- A row of one number, made by taking what is there twice, again and again. -/
theorem repeat_o (k : Bool) (v : Int) (n : Nat) (h0 : 0 < n) (h : n ≤ 1000) : CallO Try.prog 94 [.seq 1 [iv v] k, iv (n : Int)] 1 (List.replicate n (iv v)) := by
  refine CO94 (by simp) ?_
  have hm := Mul_c n h
  simp only [uv] at hm
  simp [A94]
  repeat (refine PreK.intro (by first | omega | (intros; first | omega | (refine ⟨by omega, ?_⟩; simp_all; done) | (simp_all; done) | (simp_all; omega))) fun _ => ?_; (try simp ))
  refine CondK.intro (fun h1 => ?_) (fun h1 => ?_)
  · simp at h1; omega
  · repeat (refine PreK.intro (by first | omega | (intros; first | omega | (refine ⟨by omega, ?_⟩; simp_all; done) | (simp_all; done) | (simp_all; omega))) fun _ => ?_; (try simp ))
    have w1 : IntKind.u64.wrap 1 = 1 := by decide
    have w2 : IntKind.u64.wrap (n : Int) = n := wrap_in (by simp only [inR]; omega)
    have w3 : IntKind.i64.wrap (n : Int) = n := wrap_in (by simp only [inR]; omega)
    repeat (refine PreK.intro (by first | omega | (intros; first | omega | (refine ⟨by omega, ?_⟩; simp_all; done) | (simp_all; done) | (simp_all; omega))) fun _ => ?_; (try simp [w1, w2, w3]))
    rw [w1, w2]
    try simp [w1, w2, w3]
    repeat' (first
      | (refine CallX.pure (hm) (by simp) (by simp) ?_; try simp [w1, w2, w3])
      | (refine CallK.intro (hm) (by simp) (by simp) ?_; try simp [w1, w2, w3])
      | (refine CallG.intro (fun _ => hm) (by simp) (by simp) ?_; try simp [w1, w2, w3])
      | ((with_reducible refine PreK.intro ?_ ?_); (next => (first | omega | (intros; first | omega | (refine ⟨by omega, ?_⟩; repeat (first | assumption | constructor)) | assumption))); intro _; try simp [w1, w2, w3])
      | fail)
    refine CondK.intro (fun h2 => ?_) (fun h2 => ?_)
    · simp at h2; omega
    · repeat (refine PreK.intro (by first | omega | (intros; first | omega | (refine ⟨by omega, ?_⟩; simp_all; done) | (simp_all; done) | (simp_all; omega))) fun _ => ?_; (try simp [w1, w2, w3]))
      have t1 : List.take n [AV.raw (Value.int IntKind.i64 v)] = [AV.raw (Value.int IntKind.i64 v)] := List.take_of_length_le h0
      have t2 : min n 1 = 1 := by omega
      have t3 : min 1 n = 1 := by omega
      refine LoopK.by (ι := Nat) (fun k => ⟨[(8, iv k), (7, .sl 30 1 0 n)], [(30, some ⟨1, List.replicate k (iv v) ++ List.replicate (n - k) (iv 0), 1, false⟩)]⟩) (fun k => n - k) (fun k => 1 ≤ k ∧ k ≤ n) 1 ⟨Nat.le_refl 1, h0⟩ (by simp [t1, t2, t3]) ?_
      intro k Q' ⟨k1, k2⟩ hq he hr
      repeat (refine PreK.intro (by first | omega | (intros; first | omega | (refine ⟨by omega, ?_⟩; simp_all; done) | (simp_all; done) | (simp_all; omega))) fun _ => ?_; (try simp ))
      refine CondK.intro (fun h3 => ?_) (fun h3 => ?_)
      · simp at h3
        repeat (refine PreK.intro (by first | omega | (intros; first | omega | (refine ⟨by omega, ?_⟩; simp_all; done) | (simp_all; done) | (simp_all; omega))) fun _ => ?_; (try simp [h3]))
        have e1 : min k (n - k) = min (n - k) k := Nat.min_comm _ _
        have e2 : List.drop (k + min (n - k) k) (List.replicate k (AV.raw (Value.int IntKind.i64 v)) ++ List.replicate (n - k) (AV.raw (Value.int IntKind.i64 0))) = List.replicate (n - (k + min (n - k) k)) (AV.raw (Value.int IntKind.i64 0)) := by
          rw [List.drop_append, List.drop_replicate, List.drop_replicate, List.length_replicate, show k - (k + min (n - k) k) = 0 by omega, show n - k - (k + min (n - k) k - k) = n - (k + min (n - k) k) by omega]
          simp
        exact hq (k + min (n - k) k) _ ⟨by omega, by omega⟩ (by omega) (by simp [e1, e2])
      · simp at h3
        have e : k = n := by omega
        subst e
        try simp 
        apply he
        repeat (refine PreK.intro (by first | omega | (intros; first | omega | (refine ⟨by omega, ?_⟩; simp_all; done) | (simp_all; done) | (simp_all; omega))) fun _ => ?_; (try simp ))
end Go.Proofs.Ytkhddecnllcaiaa
end

section
/- Plain: paths, and the shortest one that a search gives. -/
namespace Go.Proofs.Ytkhddecnllcaiaa
open Go.Abs Go

/-- A path from the k-th step on: the word, and the number of the step at which it ends, and why. -/
def ckP (s : List Rule) : List Step → Word → Nat → Word × Int × Int
  | [], v, k => (v, (k : Int), 0)
  | x :: l, v, k => if (decide (0 ≤ x.rule) && decide (x.rule ≤ (s.length : Int) - 1)) = false then ([], (k : Int), 4)
    else if (applyM (el s x.rule.toNat) v x.place).2 ≠ 0 then ([], (k : Int), 6)
    else ckP s l (applyM (el s x.rule.toNat) v x.place).1 (k + 1)
def CkPath (s : List Rule) (w : Word) (l : List Step) : Word × Int × Int :=
  if swErr s w ≠ 0 then ([], 0, swErr s w) else if 60 < l.length then ([], 0, 3) else ckP s l w 0
/-- One step leads from a word to another one. -/
def stepTo (s : List Rule) (u : Word) (x : Step) (v : Word) : Prop := 0 ≤ x.rule ∧ x.rule ≤ (s.length : Int) - 1 ∧ applyM (el s x.rule.toNat) u x.place = (v, 0)
theorem ckP_step {s : List Rule} {u v : Word} {x : Step} (h : stepTo s u x v) (l : List Step) (k : Nat) : ckP s (x :: l) u k = ckP s l v (k + 1) := by
  obtain ⟨h1, h2, h3⟩ := h
  rw [ckP, if_neg (by simp [h1, h2]), h3]
  simp
theorem stepTo_of {s : List Rule} {u v : Word} {x : Step} (h : (⟨x, v⟩ : Move) ∈ movesM s u) : stepTo s u x v := by
  have key : ∀ (s : List Rule) (k : Nat), (⟨x, v⟩ : Move) ∈ movesF u k s → ∃ i, i < s.length ∧ x.rule = ((k + i : Nat) : Int) ∧ applyM (el s i) u x.place = (v, 0) := by
    intro s
    induction s with
    | nil => intro k h; simp [movesF] at h
    | cons r s ih =>
      intro k h
      rw [movesF] at h
      rcases List.mem_append.1 h with h | h
      · obtain ⟨h1, h2⟩ := movesR_mem _ _ _ h
        obtain ⟨h3, h4⟩ := movesR_word _ _ _ h
        dsimp only at h1 h2 h3 h4
        exact ⟨0, by simp, by simpa using h1, by rw [h3, ← h4]; rfl⟩
      · obtain ⟨i, h1, h2, h3⟩ := ih (k + 1) h
        exact ⟨i + 1, by simp; omega, by rw [h2]; congr 1; omega, by simpa [el] using h3⟩
  obtain ⟨i, h1, h2, h3⟩ := key s 0 h
  refine ⟨by omega, by omega, ?_⟩
  rw [show x.rule.toNat = i by omega]
  exact h3
/-- The steps back from the i-th word to the first one. -/
def backM (g : Gr) : Nat → Nat → List Step
  | 0, _ => []
  | n + 1, i => if el g.frm i < 0 then [] else el g.stp i :: backM g n (el g.frm i).toNat
theorem backM_more (g : Gr) {s : List Rule} {ws : List WN} (h : GrD s g ws) : ∀ (n m i : Nat), i < n → i < m → i < ws.length → backM g n i = backM g m i
  | 0, m, i, hn, _, _ => by omega
  | n + 1, 0, i, _, hm, _ => by omega
  | n + 1, m + 1, i, hn, hm, hi => by
    rw [backM, backM]
    by_cases h0 : i = 0
    · subst h0
      rw [h.root hi]; simp
    · obtain ⟨k, h1, h2, _⟩ := h.back i (by omega) hi
      rw [h1]
      rw [if_neg (by omega), if_neg (by omega)]
      congr 1
      exact backM_more g h n m _ (by omega) (by omega) (by omega)
/-- They are a path, and as many as the word is away. -/
theorem backM_path {s : List Rule} {w : Word} {g : Gr} {ws : List WN} (h : GrD s g ws) (hf : ∃ l, ws = (w, 0) :: l) : ∀ (n i : Nat), i < n → i < ws.length →
    (backM g n i).length = (el ws i).2 ∧ ∀ (t : List Step) (k : Nat), ckP s ((backM g n i).reverse ++ t) w k = ckP s t (el ws i).1 (k + (el ws i).2)
  | 0, i, hn, _ => by omega
  | n + 1, i, hn, hi => by
    rw [backM]
    by_cases h0 : i = 0
    · subst h0
      rw [h.root hi]
      obtain ⟨l, rfl⟩ := hf
      simp [el]
    · obtain ⟨j, h1, h2, h3, h4⟩ := h.back i (by omega) hi
      rw [h1, if_neg (by omega)]
      obtain ⟨i1, i2⟩ := backM_path h hf n j (by omega) (by omega)
      simp only [Int.toNat_natCast]
      refine ⟨by simp [i1, h3], fun t k => ?_⟩
      rw [List.reverse_cons, List.append_assoc, i2, List.singleton_append, ckP_step (stepTo_of h4), h3]
      congr 1
end Go.Proofs.Ytkhddecnllcaiaa
end

section
/- Plain: a system without a rule. -/
namespace Go.Proofs.Ytkhddecnllcaiaa
open Go.Abs Go

/-- The words to which a rule leads. -/
def wordsR (w : Word) (r : Rule) : List Word := (movesR r w 0 0 (w.length + 1)).map (·.word)
theorem movesR_words (r : Rule) (w : Word) (k j : Nat) : ∀ (n i : Nat), (movesR r w k i n).map (·.word) = (movesR r w j i n).map (·.word)
  | 0, i => rfl
  | n + 1, i => by
    simp only [movesR, List.map_append, movesR_words r w k j n (i + 1)]
    congr 1
    unfold moveAt
    split <;> rfl
theorem movesF_words (w : Word) : ∀ (s : List Rule) (k : Nat), (movesF w k s).map (·.word) = s.flatMap (wordsR w)
  | [], k => rfl
  | r :: s, k => by
    simp only [movesF, List.map_append, List.flatMap_cons, movesF_words w s (k + 1)]
    congr 1
    exact movesR_words r w k 0 _ _
theorem nxP_flat (s : List Rule) (w : Word) : nxP s w = s.flatMap (wordsR w) := movesF_words w s 0
/-- Which rules are in the steps of a word. -/
def hasRule (s : List Rule) (k : Nat) (u : Word) : Bool := (movesM s u).any fun m => decide (m.step.rule = (k : Int))
theorem movesF_rule (w : Word) : ∀ (s : List Rule) (b i : Nat), i < s.length → wordsR w (el s i) ≠ [] → ∃ m ∈ movesF w b s, m.step.rule = ((b + i : Nat) : Int)
  | [], b, i, hi, _ => by simp at hi
  | r :: s, b, 0, _, h => by
    have e : el (r :: s) 0 = r := rfl
    rw [e] at h
    have h2 : (movesR r w b 0 (w.length + 1)).map (·.word) ≠ [] := by rw [movesR_words r w b 0]; exact h
    cases hm : movesR r w b 0 (w.length + 1) with
    | nil => rw [hm] at h2; exact absurd rfl h2
    | cons m l =>
      refine ⟨m, ?_, ?_⟩
      · rw [movesF, hm]; simp
      · have := (movesR_mem (r := r) (w := w) (k := b) (w.length + 1) 0 m (by rw [hm]; simp)).1
        simpa using this
  | r :: s, b, i + 1, hi, h => by
    have e : el (r :: s) (i + 1) = el s i := by simp [el]
    rw [e] at h
    obtain ⟨m, h1, h2⟩ := movesF_rule w s (b + 1) i (by simpa using hi) h
    refine ⟨m, ?_, by rw [h2]; congr 1; omega⟩
    rw [movesF]
    exact List.mem_append.2 (.inr h1)
theorem unused_words {s : List Rule} {k : Nat} {u : Word} (hk : k < s.length) (h : hasRule s k u = false) : wordsR u (el s k) = [] := by
  apply Classical.byContradiction
  intro hne
  obtain ⟨m, h1, h2⟩ := movesF_rule u s 0 k hk hne
  unfold hasRule at h
  rw [List.any_eq_false] at h
  have := h m h1
  simp [h2] at this
theorem mem_eraseIdx {α : Type} [Inhabited α] {s : List α} {k : Nat} (hk : k < s.length) {x : α} (h : x ∈ s) : x ∈ s.eraseIdx k ∨ x = el s k := by
  rw [List.eraseIdx_eq_take_drop_succ]
  have : s = s.take k ++ el s k :: s.drop (k + 1) := by
    rw [← drop_cons s k hk, List.take_append_drop]
  rw [this] at h
  rcases List.mem_append.1 h with h | h
  · exact .inl (List.mem_append.2 (.inl h))
  · rcases List.mem_cons.1 h with h | h
    · exact .inr h
    · exact .inl (List.mem_append.2 (.inr h))
theorem nxP_less {s : List Rule} {k : Nat} {u x : Word} (h : x ∈ nxP (s.eraseIdx k) u) : x ∈ nxP s u := by
  rw [nxP_flat] at h ⊢
  obtain ⟨r, hr, hx⟩ := List.mem_flatMap.1 h
  exact List.mem_flatMap.2 ⟨r, List.mem_of_mem_eraseIdx hr, hx⟩
theorem nxP_kept {s : List Rule} {k : Nat} (hk : k < s.length) {u x : Word} (hu : hasRule s k u = false) (h : x ∈ nxP s u) : x ∈ nxP (s.eraseIdx k) u := by
  rw [nxP_flat] at h ⊢
  obtain ⟨r, hr, hx⟩ := List.mem_flatMap.1 h
  rcases mem_eraseIdx hk hr with h1 | h1
  · exact List.mem_flatMap.2 ⟨r, h1, hx⟩
  · rw [h1, unused_words hk hu] at hx
    cases hx
/-- What is reached by fewer steps is found by fewer. -/
theorem closeM_sub {nx nx' : Word → List Word} {w : Word} {ws : List WN} (h : closeM nx w = some ws) (hsub : ∀ n x, ReachN nx' w n x → ∃ m, ReachN nx w m x) :
    ∃ ws', closeM nx' w = some ws' ∧ ∀ x ∈ ws'.map (·.1), x ∈ ws.map (·.1) := by
  have hc := closeM_some h
  cases h' : closeM nx' w with
  | none =>
    exfalso
    obtain ⟨m, h1, h2, h3⟩ := closeM_none h'
    have := nodup_le' (m := ws.map (·.1)) h1 fun x hx => by
      obtain ⟨k, hk⟩ := h3 x hx
      obtain ⟨j, hj⟩ := hsub k x hk
      obtain ⟨z, hz, e, _⟩ := hc.all j x hj
      exact List.mem_map.2 ⟨z, hz, e⟩
    have hl := hc.len
    rw [List.length_map, h2] at this
    omega
  | some ws' =>
    refine ⟨ws', rfl, fun x hx => ?_⟩
    obtain ⟨y, hy, rfl⟩ := List.mem_map.1 hx
    obtain ⟨j, hj⟩ := hsub _ _ ((closeM_some h').reach y hy)
    obtain ⟨z, hz, e, _⟩ := hc.all j _ hj
    exact List.mem_map.2 ⟨z, hz, e⟩
theorem reachG_sub {s s' : List Rule} {w : Word} {g : Gr} (h : reachG s w = some g) (hsub : ∀ n x, ReachN (nxP s') w n x → ∃ m, ReachN (nxP s) w m x) :
    ∃ g', reachG s' w = some g' ∧ ∀ x ∈ g'.ws, x ∈ g.ws := by
  have h1 := reachG_F s w
  rw [h] at h1
  cases hc : closeM (nxP s) w with
  | none => rw [hc] at h1; exact h1.elim
  | some ws =>
    rw [hc] at h1
    obtain ⟨ws', h2, h3⟩ := closeM_sub hc hsub
    have h4 := reachG_F s' w
    rw [h2] at h4
    cases hg : reachG s' w with
    | none => rw [hg] at h4; exact h4.elim
    | some g' =>
      rw [hg] at h4
      refine ⟨g', rfl, fun x hx => ?_⟩
      rw [h4.words] at hx
      rw [h1.words]
      exact h3 x hx
theorem reach_less {s : List Rule} {k : Nat} {w : Word} : ∀ (n : Nat) (x : Word), ReachN (nxP (s.eraseIdx k)) w n x → ReachN (nxP s) w n x := by
  intro n x h
  induction h with
  | zero => exact .zero
  | succ h hx ih => exact .succ ih (nxP_less hx)
theorem closed_mem {s : List Rule} {w : Word} {g : Gr} (h : reachG s w = some g) : (∀ n x, ReachN (nxP s) w n x → x ∈ g.ws) ∧ ∀ x ∈ g.ws, ∃ n, ReachN (nxP s) w n x := by
  have h1 := reachG_F s w
  rw [h] at h1
  cases hc : closeM (nxP s) w with
  | none => rw [hc] at h1; exact h1.elim
  | some ws =>
    rw [hc] at h1
    have hcl := closeM_some hc
    refine ⟨fun n x hx => ?_, fun x hx => ?_⟩
    · obtain ⟨z, hz, e, _⟩ := hcl.all n x hx
      rw [h1.words]
      exact List.mem_map.2 ⟨z, hz, e⟩
    · rw [h1.words] at hx
      obtain ⟨y, hy, rfl⟩ := List.mem_map.1 hx
      exact ⟨_, hcl.reach y hy⟩
/-- Without a rule that is in no step the same words are reached. -/
theorem unused_same {s : List Rule} {k : Nat} {w : Word} {g : Gr} (hk : k < s.length) (h : reachG s w = some g) (hu : ∀ u ∈ g.ws, hasRule s k u = false) : ∃ g', reachG (s.eraseIdx k) w = some g' ∧ ∀ x, x ∈ g'.ws ↔ x ∈ g.ws := by
  obtain ⟨g', h1, h2⟩ := reachG_sub h (s' := s.eraseIdx k) fun n x hx => ⟨n, reach_less n x hx⟩
  refine ⟨g', h1, fun x => ⟨h2 x, fun hx => ?_⟩⟩
  obtain ⟨n, hn⟩ := (closed_mem h).2 x hx
  have key : ReachN (nxP (s.eraseIdx k)) w n x := by
    clear hx
    induction hn with
    | zero => exact .zero
    | succ h3 h4 ih => exact .succ ih (nxP_kept hk (hu _ ((closed_mem h).1 _ _ h3)) h4)
  exact (closed_mem h1).1 _ _ key
end Go.Proofs.Ytkhddecnllcaiaa
end

section
/- Plain: weights that hold are at least the smallest ones, and bound all walks; a closed graph. -/
namespace Go.Proofs.Ytkhddecnllcaiaa
open Go.Abs Go

theorem passM_under {O : List Int} : ∀ {l : List Rule} {o : List Int} {b : Bool} {o' : List Int} {b' : Bool}, (∀ r ∈ l, r.frm ≤ 5) → holdsM l O → o.length = 6 → leW o O → passM l (o, b) = some (o', b') → leW o' O
  | [], o, b, o', b', _, _, _, h, he => by simp only [passM, Option.some.injEq, Prod.mk.injEq] at he; rw [← he.1]; exact h
  | r :: l, o, b, o', b', hv, hO, hl, h, he => by
    have h5 := hv r (by simp)
    obtain ⟨h0, h1⟩ := hO r (by simp)
    rw [passM, if_neg (by omega)] at he
    split at he
    · refine passM_under (fun x hx => hv x (by simp [hx])) (fun x hx => hO x (by simp [hx])) (by simpa using hl) (fun k => ?_) he
      rw [el_set _ _ _ _ (by omega)]
      split
      · rename_i e; subst e
        have := weighM_mono h r.to
        omega
      · exact h k
    · exact passM_under (fun x hx => hv x (by simp [hx])) (fun x hx => hO x (by simp [hx])) hl h he
theorem roundsM_under {s : List Rule} {O : List Int} (hv : ∀ r ∈ s, r.frm ≤ 5) (hO : holdsM s O) : ∀ (n : Nat) {o o' : List Int}, o.length = 6 → leW o O → roundsM s n o = some o' → leW o' O
  | 0, o, o', _, _, he => by cases he
  | n + 1, o, o', hl, h, he => by
    rw [roundsM] at he
    cases hp : passM s (o, false) with
    | none => rw [hp] at he; cases he
    | some p =>
      obtain ⟨q, g⟩ := p
      rw [hp] at he
      have h1 := passM_under hv hO hl h hp
      have h2 := passM_len _ _ _ _ _ hp
      dsimp only at he
      split at he
      · exact roundsM_under hv hO n (by omega) h1 he
      · simp only [Option.some.injEq] at he
        subst he; exact h1
/-- Where weights hold there are smallest ones. -/
theorem least_weights {s : List Rule} {O : List Int} (hv : ∀ r ∈ s, r.frm ≤ 5) (hO : holdsM s O) (hp : ∀ k, 0 ≤ el O k) (hOl : O.length = 6) : ∃ o, roundsM s 7 [0, 0, 0, 0, 0, 0] = some o ∧ leW o O := by
  have hz : leW [0, 0, 0, 0, 0, 0] O := fun k => by
    rcases (kept_zero s).sup k with e | ⟨r, hr, hk, _⟩
    · rw [e]; exact hp k
    · have h0 := (kept_zero s).sup
      have : el ([0, 0, 0, 0, 0, 0] : List Int) k = 0 := by
        match k with
        | 0 => rfl
        | 1 => rfl
        | 2 => rfl
        | 3 => rfl
        | 4 => rfl
        | 5 => rfl
        | k + 6 => rfl
      rw [this]; exact hp k
  have h0 : ∀ r ∈ s, 0 ≤ r.frm := fun r hr => (hO r hr).1
  have : ∃ o, roundsM s 7 [0, 0, 0, 0, 0, 0] = some o := by
    obtain ⟨⟨o1, g⟩, h1⟩ := passM_some h0 ([0, 0, 0, 0, 0, 0], false)
    rw [roundsM, h1]
    dsimp only
    cases g with
    | false => exact ⟨o1, rfl⟩
    | true =>
      simp only [if_true]
      rcases passM_mark rfl hv h1 with e | hgr
      · cases e
      · exact roundsM_stops hv h0 hO hp hOl 6 1 [0, 0, 0, 0, 0, 0] o1 _ _ rfl rfl h1 hgr (fun y _ => by omega)
  obtain ⟨o, ho⟩ := this
  exact ⟨o, ho, roundsM_under hv hO 7 rfl hz ho⟩
theorem nx_lighter {s : List Rule} {o : List Int} (ho : holdsM s o) {u x : Word} (h : x ∈ nxP s u) : weighM o x + 1 ≤ weighM o u := by
  obtain ⟨m, hm, rfl⟩ := List.mem_map.1 h
  obtain ⟨r, h1, h2, h3⟩ := movesF_word s 0 m hm
  obtain ⟨_, h4, h5⟩ := applyM_zero h3
  have hh := ho r h1
  rw [h2, h5]
  exact put_lighter hh.1 hh.2 h4
theorem walk_lighter {s : List Rule} {o : List Int} (ho : holdsM s o) {w x : Word} {n : Nat} (h : ReachN (nxP s) w n x) : weighM o x + (n : Int) ≤ weighM o w := by
  induction h with
  | zero => simp
  | succ h hx ih =>
    have := nx_lighter ho hx
    omega
/-- Weights that hold bound the steps. -/
theorem long_bound {s : List Rule} {o : List Int} (ho : holdsM s o) (hp : ∀ k, 0 ≤ el o k) {w : Word} {n : Int} {ok : Bool} (h : LongR (nxP s) w n ok) : ok = true ∧ n ≤ weighM o w := by
  cases ok with
  | true =>
    obtain ⟨⟨m, h1, x, h2⟩, _⟩ := h.fin rfl
    have := walk_lighter ho h2
    have := weighM_nonneg hp x
    exact ⟨rfl, by omega⟩
  | false =>
    exfalso
    obtain ⟨_, h2⟩ := h.ever rfl
    obtain ⟨x, hx⟩ := h2 ((weighM o w).toNat + 1)
    have := walk_lighter ho hx
    have := weighM_nonneg hp x
    have := weighM_nonneg hp w
    omega
/-! ### what is reached begins with the word -/
theorem addG_first {i : Nat} {x : Word} : ∀ {l : List Move} {g g' : Gr}, 0 < g.ws.length → el g.ws 0 = x → addG i g l = some g' → 0 < g'.ws.length ∧ el g'.ws 0 = x
  | [], g, g', h0, h, he => by simp only [addG, Option.some.injEq] at he; subst he; exact ⟨h0, h⟩
  | m :: l, g, g', h0, h, he => by
    rw [addG] at he
    split at he
    · exact addG_first h0 h he
    · split at he
      · cases he
      · exact addG_first (by simp) (by dsimp only; rw [el_app_left _ _ h0]; exact h) he
theorem closeG_first {s : List Rule} {x : Word} : ∀ (n i : Nat) {g g' : Gr}, 0 < g.ws.length → el g.ws 0 = x → closeG s n i g = some g' → el g'.ws 0 = x
  | 0, i, g, g', h0, h, he => by simp only [closeG, Option.some.injEq] at he; subst he; exact h
  | n + 1, i, g, g', h0, h, he => by
    rw [closeG] at he
    split at he
    · cases ha : addG i g (movesM s (el g.ws i)) with
      | none => rw [ha] at he; cases he
      | some g1 =>
        rw [ha] at he
        obtain ⟨h1, h2⟩ := addG_first h0 h ha
        exact closeG_first n (i + 1) h1 h2 he
    · simp only [Option.some.injEq] at he; subst he; exact h
theorem reachG_first {s : List Rule} {w : Word} {g : Gr} (h : reachG s w = some g) : el g.ws 0 = w := closeG_first 301 0 (by simp) rfl h
end Go.Proofs.Ytkhddecnllcaiaa
end

section
/- Contracts: the longest walk; feed's Longest and Forever. -/
namespace Go.Proofs.Ytkhddecnllcaiaa
open Go.Abs Go
set_option maxRecDepth 20000
set_option maxHeartbeats 2000000
attribute [local irreducible] PreK CondK CallK CallG CallX LoopK
attribute [local simp] avsEq avEq akind teq vkind vEq T_133

theorem shut_of {s : List Rule} {w : Word} {g : Gr} (h : reachG s w = some g) : Shut s g := by
  obtain ⟨h1, h2⟩ := closed_mem h
  intro i hi m hm
  obtain ⟨n, hn⟩ := h2 (el g.ws i) (el_mem_of g.ws i hi)
  exact h1 (n + 1) _ (.succ hn (List.mem_map.2 ⟨m, hm, rfl⟩))
def deepG (s : List Rule) (g : Gr) : DS × Int := downM (scG s g) (g.ws.length + 1) 0 (List.replicate g.ws.length (-2), false)
def LongestG (s : List Rule) (g : Gr) : Int × Bool := (if (deepG s g).1.2 then 0 else (deepG s g).2, !(deepG s g).1.2)
theorem longestG_spec {s : List Rule} {w : Word} {g : Gr} (h : reachG s w = some g) (hok : g.ok) : LongR (nxP s) w (LongestG s g).1 (LongestG s g).2 := by
  obtain ⟨h1, h2⟩ := closed_mem h
  have hf : ∀ y ∈ g.ws, fine y := fun x hx => fine_of (hok.fine x hx)
  have hs := shut_of h
  have hsc : ScOK (nxP s) g.ws (scG s g) := by
    refine ⟨fun i hi j hj => ?_, fun i hi x hx => ?_⟩
    · obtain ⟨m, hm, rfl⟩ := List.mem_map.1 hj
      obtain ⟨a, b, _⟩ := posW_spec hf (hs i hi m hm)
      rw [b]
      exact ⟨a, List.mem_map.2 ⟨m, hm, rfl⟩⟩
    · obtain ⟨m, hm, rfl⟩ := List.mem_map.1 hx
      exact ⟨_, List.mem_map.2 ⟨m, hm, rfl⟩, (posW_spec hf (hs i hi m hm)).2.1⟩
  exact down_long ⟨h1 0 w .zero, h2, h1⟩ hsc (reachG_first h) hok.some _ (Nat.lt_succ_self _)
def LongestE (s : List Rule) (w : Word) : Int × Bool × Int := if swErr s w ≠ 0 then (0, false, swErr s w) else match reachG s w with
  | none => (0, false, 3)
  | some g => ((LongestG s g).1, (LongestG s g).2, 0)
theorem longestE_spec {s : List Rule} {w : Word} (h : (LongestE s w).2.2 = 0) : LongR (nxP s) w (LongestE s w).1 (LongestE s w).2.1 := by
  unfold LongestE at h ⊢
  split at h
  · rename_i h1; exact absurd h h1
  · rename_i h1
    rw [if_neg h1]
    simp only [ne_eq, Decidable.not_not] at h1
    cases hg : reachG s w with
    | none => rw [hg] at h; cases h
    | some g => exact longestG_spec hg (reachG_ok h1 hg)
theorem dok_start (g : Gr) : DOK g.ws.length (List.replicate g.ws.length (-2)) := by
  have hel : ∀ k, k < g.ws.length → el (List.replicate g.ws.length (-2 : Int)) k = -2 := by
    intro k hk
    rw [el_eq _ _ (by simpa using hk)]; simp
  refine ⟨by simp, fun k hk => ?_, fun k hk => ?_⟩
  · rw [hel k hk]; omega
  · rw [hel k hk]; omega
theorem longest_c (s : List Rule) (g : Gr) (h : Sys.small s) (hs : sysErr s = 0) (hok : g.ok) (hc : Shut s g) :
    CallP Try.prog 57 [.ipt (graphV s g) 0] (.tup [iv (LongestG s g).1, bv (LongestG s g).2]) := by
  refine C57 (by simp) ?_
  have hnum := hok.num
  have h0 := hok.some
  have hrep := repeat_o false (-2) g.ws.length hok.some (by omega)
  have hcu : cntU (List.replicate g.ws.length (-2 : Int)) < g.ws.length + 1 := by
    have : cntU (List.replicate g.ws.length (-2 : Int)) ≤ (List.replicate g.ws.length (-2 : Int)).length := List.countP_le_length
    rw [List.length_replicate] at this
    omega
  have hdb := deep_b s g h hs hok hc (g.ws.length + 1) 0 (List.replicate g.ws.length (-2)) false hok.some (dok_start g) hcu
  unfold LongestG deepG
  generalize downM (scG s g) (g.ws.length + 1) 0 (List.replicate g.ws.length (-2), false) = D at hdb ⊢
  obtain ⟨⟨f, e⟩, v⟩ := D
  dsimp only at hdb ⊢
  simp only [lgM, pts, graphV] at hdb
  simp [A57, graphV]
  repeat (refine PreK.intro (by first | omega | (intros; first | omega | (refine ⟨by omega, ?_⟩; simp_all; done) | (simp_all; done) | (simp_all; omega))) fun _ => ?_; (try simp ))
  refine CallX.own (by simpa using hrep) (by simp) (by simp) ?_
  try simp 
  repeat (refine PreK.intro (by first | omega | (intros; first | omega | (refine ⟨by omega, ?_⟩; simp_all; done) | (simp_all; done) | (simp_all; omega))) fun _ => ?_; (try simp ))
  refine CallX.boxes [(4, 1, 101), (5, 1, 102), (1, 1, 103), (6, 1, 104), (14, 1, 105)] (by simp) (by simpa using hdb) ?_
  try simp 
  repeat (refine PreK.intro (by first | omega | (intros; first | omega | (refine ⟨by omega, ?_⟩; simp_all; done) | (simp_all; done) | (simp_all; omega))) fun _ => ?_; (try simp ))
  refine CondK.intro (fun h1 => ?_) (fun h1 => ?_)
  · subst h1
    repeat (refine PreK.intro (by first | omega | (intros; first | omega | (refine ⟨by omega, ?_⟩; simp_all; done) | (simp_all; done) | (simp_all; omega))) fun _ => ?_; (try simp ))
  · subst h1
    repeat (refine PreK.intro (by first | omega | (intros; first | omega | (refine ⟨by omega, ?_⟩; simp_all; done) | (simp_all; done) | (simp_all; omega))) fun _ => ?_; (try simp ))
theorem Longest_c (s : List Rule) (w : List Int) (h : Sys.small s) (hw : w.length ≤ 1000) : CallP Try.prog 17 [rulesV s, ints w] (.tup [iv (LongestE s w).1, bv (LongestE s w).2.1, iv (LongestE s w).2.2]) := by
  refine C17 (by simp) ?_
  have hrc := reached_c s w h hw
  by_cases h1 : swErr s w = 0
  · have e1 : reachedV s w = reachV s (reachG s w) := by simp [reachedV, h1]
    rw [e1] at hrc
    cases hg : reachG s w with
    | none =>
      rw [hg] at hrc
      have e2 : LongestE s w = (0, false, 3) := by simp [LongestE, h1, hg]
      rw [e2]
      simp only [reachV] at hrc
      simp [A17]
      try simp 
      repeat' (first
        | (refine CallX.pure (hrc) (by simp) (by simp) ?_; try simp )
        | (refine CallK.intro (hrc) (by simp) (by simp) ?_; try simp )
        | (refine CallG.intro (fun _ => hrc) (by simp) (by simp) ?_; try simp )
        | ((with_reducible refine PreK.intro ?_ ?_); (next => (first | omega | (intros; first | omega | (refine ⟨by omega, ?_⟩; repeat (first | assumption | constructor)) | assumption))); intro _; try simp )
        | fail)
      refine CondK.intro (fun h2 => ?_) (fun h2 => ?_)
      · try simp 
        repeat' (first
          | ((with_reducible refine PreK.intro ?_ ?_); (next => (first | omega | (intros; first | omega | (refine ⟨by omega, ?_⟩; repeat (first | assumption | constructor)) | assumption))); intro _; try simp )
          | fail)
      · simp at h2
    | some g =>
      rw [hg] at hrc
      have hec := longest_c s g h (swErr_zero h1).1 (reachG_ok h1 hg) (shut_of hg)
      have e2 : LongestE s w = ((LongestG s g).1, (LongestG s g).2, 0) := by simp [LongestE, h1, hg]
      rw [e2]
      simp only [reachV, graphV] at hrc
      simp only [graphV] at hec
      generalize LongestG s g = L at hec
      simp [A17]
      try simp 
      repeat' (first
        | (refine CallX.pure (hrc) (by simp) (by simp) ?_; try simp )
        | (refine CallK.intro (hrc) (by simp) (by simp) ?_; try simp )
        | (refine CallG.intro (fun _ => hrc) (by simp) (by simp) ?_; try simp )
        | ((with_reducible refine PreK.intro ?_ ?_); (next => (first | omega | (intros; first | omega | (refine ⟨by omega, ?_⟩; repeat (first | assumption | constructor)) | assumption))); intro _; try simp )
        | fail)
      refine CondK.intro (fun h2 => ?_) (fun h2 => ?_)
      · simp at h2
      · try simp 
        repeat' (first
          | (refine CallX.pure (hec) (by simp) (by simp) ?_; try simp )
          | (refine CallK.intro (hec) (by simp) (by simp) ?_; try simp )
          | (refine CallG.intro (fun _ => hec) (by simp) (by simp) ?_; try simp )
          | ((with_reducible refine PreK.intro ?_ ?_); (next => (first | omega | (intros; first | omega | (refine ⟨by omega, ?_⟩; repeat (first | assumption | constructor)) | assumption))); intro _; try simp )
          | fail)
  · have e1 : reachedV s w = .tup [.raw (.pointer none), iv (swErr s w)] := by simp [reachedV, h1]
    rw [e1] at hrc
    have e2 : LongestE s w = (0, false, swErr s w) := by simp [LongestE, h1]
    rw [e2]
    simp [A17]
    try simp 
    repeat' (first
      | (refine CallX.pure (hrc) (by simp) (by simp) ?_; try simp )
      | (refine CallK.intro (hrc) (by simp) (by simp) ?_; try simp )
      | (refine CallG.intro (fun _ => hrc) (by simp) (by simp) ?_; try simp )
      | ((with_reducible refine PreK.intro ?_ ?_); (next => (first | omega | (intros; first | omega | (refine ⟨by omega, ?_⟩; repeat (first | assumption | constructor)) | assumption))); intro _; try simp )
      | fail)
    refine CondK.intro (fun h2 => ?_) (fun h2 => ?_)
    · try simp 
      repeat' (first
        | ((with_reducible refine PreK.intro ?_ ?_); (next => (first | omega | (intros; first | omega | (refine ⟨by omega, ?_⟩; repeat (first | assumption | constructor)) | assumption))); intro _; try simp )
        | fail)
    · simp at h2
      exact absurd h2 h1
end Go.Proofs.Ytkhddecnllcaiaa
end

section
/- Contracts: feed's Ends. -/
namespace Go.Proofs.Ytkhddecnllcaiaa
open Go.Abs Go
set_option maxRecDepth 20000
set_option maxHeartbeats 2000000
attribute [local irreducible] PreK CondK CallK CallG CallX LoopK
attribute [local simp] avsEq avEq akind teq vkind vEq

def isEndM (s : List Rule) (u : Word) : Bool := decide ((movesM s u).length = 0)
theorem ends_c (s : List Rule) (g : Gr) (h : Sys.small s) (hs : sysErr s = 0) (hok : g.ok) : CallP Try.prog 59 [.ipt (graphV s g) 0] (wordsV (uniq (g.ws.filter (isEndM s)))) := by
  refine C59 (by simp) ?_
  have hnum := hok.num
  generalize hF : g.ws.filter (isEndM s) = F
  simp [A59, graphV]
  refine LoopK.by (ι := Nat × Nat × List Word) (fun x => ⟨[(0, .ipt (graphV s g) 0), (11, iv x.1), (10, iv g.ws.length), (9, wordsV g.ws), (3, .sl 3 x.2.1 0 x.2.2.length)], [(3, some ⟨1, x.2.2.map ints, x.2.1, false⟩)]⟩) (fun x => g.ws.length - x.1)
    (fun x => x.1 ≤ g.ws.length ∧ x.2.2.length ≤ x.1 ∧ (∀ y ∈ x.2.2, y.length ≤ 8) ∧ x.2.2 ++ (g.ws.drop x.1).filter (isEndM s) = F) (0, 1, []) (by simpa using hF) (by simp [graphV]) ?_
  intro ⟨i, v, k⟩ Q' ⟨hi, hk, hk8, hc⟩ hq he hr
  dsimp only at hi hk hk8 hc
  simp only [graphV]
  try simp 
  refine CondK.intro (fun h1 => ?_) (fun h1 => ?_)
  · simp at h1
    have hu := hok.fine _ (el_mem_of g.ws i h1)
    have hwl := (wordErr_zero hu).1
    rw [drop_cons g.ws i h1, List.filter_cons] at hc
    try simp [h1]
    repeat' (first
      | (refine CallX.pure (moves_c s (el g.ws i) h hs hu) (by simp) (by simp) ?_; try simp [h1])
      | (refine CallK.intro (moves_c s (el g.ws i) h hs hu) (by simp) (by simp) ?_; try simp [h1])
      | (refine CallG.intro (fun _ => moves_c s (el g.ws i) h hs hu) (by simp) (by simp) ?_; try simp [h1])
      | ((with_reducible refine PreK.intro ?_ ?_); (next => (first | omega | (intros; first | omega | (refine ⟨by omega, ?_⟩; repeat (first | assumption | constructor)) | assumption))); intro _; try simp [h1])
      | fail)
    refine CondK.intro (fun h2 => ?_) (fun h2 => ?_)
    · have e : isEndM s (el g.ws i) = true := by (try simp at h2); unfold isEndM; simp [h2]
      rw [if_pos e] at hc
      try simp [h1]
      repeat' (first
        | (refine CallX.pure ((clone_o (el g.ws i) (by omega)).toP) (by simp) (by simp) ?_; try simp [h1])
        | (refine CallK.intro ((clone_o (el g.ws i) (by omega)).toP) (by simp) (by simp) ?_; try simp [h1])
        | (refine CallG.intro (fun _ => (clone_o (el g.ws i) (by omega)).toP) (by simp) (by simp) ?_; try simp [h1])
        | ((with_reducible refine PreK.intro ?_ ?_); (next => (first | omega | (intros; first | omega | (refine ⟨by omega, ?_⟩; repeat (first | assumption | constructor)) | assumption))); intro _; try simp [h1])
        | fail)
      refine hq (i + 1, v + 1, k ++ [el g.ws i]) _ ⟨by dsimp only; omega, by simp; omega, fun y hy => ?_, by simpa using hc⟩ (by dsimp only; omega) (by simp [graphV])
      rcases List.mem_append.1 hy with hy | hy
      · exact hk8 y hy
      · simp only [List.mem_singleton] at hy
        subst hy; exact hwl
    · have e : isEndM s (el g.ws i) = false := by (try simp at h2); unfold isEndM; simp [h2]
      rw [if_neg (by simp [e])] at hc
      try simp 
      repeat' (first
        | ((with_reducible refine PreK.intro ?_ ?_); (next => (first | omega | (intros; first | omega | (refine ⟨by omega, ?_⟩; repeat (first | assumption | constructor)) | assumption))); intro _; try simp )
        | fail)
      exact hq (i + 1, v, k) _ ⟨by dsimp only; omega, by dsimp only; omega, hk8, hc⟩ (by dsimp only; omega) (by simp [graphV])
  · simp at h1
    rw [List.drop_eq_nil_of_le (by omega)] at hc
    simp only [List.filter_nil, List.append_nil] at hc
    subst hc
    try simp 
    apply he
    have hsl := sorted_L k (by omega) (fun x hx => by have := hk8 x hx; omega)
    have hsl2 : CallL Try.prog 58 [] 1 (k.map ints) [] (.part (uniq k).length) ((uniq k).map ints ++ List.replicate (k.length - (uniq k).length) (.seq 1 [] true)) := hsl
    generalize uniq k = U at hsl2
    try simp 
    refine CallX.lend [] (id := 3) (ver := v) (n := k.length) (b := ⟨1, k.map ints, v, false⟩) [] (.part U.length) _ (by simp) (by simp) (by simp) (by simp) (by simp) (by simp) (by simp) (by simpa using hsl2) ?_
    try simp 
def EndsE (s : List Rule) (w : Word) : List Word × Int := if swErr s w ≠ 0 then ([], swErr s w) else match reachG s w with
  | none => ([], 3)
  | some g => (uniq (g.ws.filter (isEndM s)), 0)
theorem Ends_c (s : List Rule) (w : List Int) (h : Sys.small s) (hw : w.length ≤ 1000) : CallP Try.prog 21 [rulesV s, ints w] (.tup [wordsV (EndsE s w).1, iv (EndsE s w).2]) := by
  refine C21 (by simp) ?_
  have hrc := reached_c s w h hw
  by_cases h1 : swErr s w = 0
  · have e1 : reachedV s w = reachV s (reachG s w) := by simp [reachedV, h1]
    rw [e1] at hrc
    cases hg : reachG s w with
    | none =>
      rw [hg] at hrc
      have e2 : EndsE s w = ([], 3) := by simp [EndsE, h1, hg]
      rw [e2]
      simp only [reachV] at hrc
      simp [A21]
      try simp 
      repeat' (first
        | (refine CallX.pure (hrc) (by simp) (by simp) ?_; try simp )
        | (refine CallK.intro (hrc) (by simp) (by simp) ?_; try simp )
        | (refine CallG.intro (fun _ => hrc) (by simp) (by simp) ?_; try simp )
        | ((with_reducible refine PreK.intro ?_ ?_); (next => (first | omega | (intros; first | omega | (refine ⟨by omega, ?_⟩; repeat (first | assumption | constructor)) | assumption))); intro _; try simp )
        | fail)
      refine CondK.intro (fun h2 => ?_) (fun h2 => ?_)
      · try simp 
        repeat' (first
          | ((with_reducible refine PreK.intro ?_ ?_); (next => (first | omega | (intros; first | omega | (refine ⟨by omega, ?_⟩; repeat (first | assumption | constructor)) | assumption))); intro _; try simp )
          | fail)
      · simp at h2
    | some g =>
      rw [hg] at hrc
      have hec := ends_c s g h (swErr_zero h1).1 (reachG_ok h1 hg)
      have e2 : EndsE s w = (uniq (g.ws.filter (isEndM s)), 0) := by simp [EndsE, h1, hg]
      rw [e2]
      simp only [reachV, graphV] at hrc
      simp only [graphV] at hec
      generalize uniq (g.ws.filter (isEndM s)) = U at hec
      simp [A21]
      try simp 
      repeat' (first
        | (refine CallX.pure (hrc) (by simp) (by simp) ?_; try simp )
        | (refine CallK.intro (hrc) (by simp) (by simp) ?_; try simp )
        | (refine CallG.intro (fun _ => hrc) (by simp) (by simp) ?_; try simp )
        | ((with_reducible refine PreK.intro ?_ ?_); (next => (first | omega | (intros; first | omega | (refine ⟨by omega, ?_⟩; repeat (first | assumption | constructor)) | assumption))); intro _; try simp )
        | fail)
      refine CondK.intro (fun h2 => ?_) (fun h2 => ?_)
      · simp at h2
      · try simp 
        repeat' (first
          | (refine CallX.pure (hec) (by simp) (by simp) ?_; try simp )
          | (refine CallK.intro (hec) (by simp) (by simp) ?_; try simp )
          | (refine CallG.intro (fun _ => hec) (by simp) (by simp) ?_; try simp )
          | ((with_reducible refine PreK.intro ?_ ?_); (next => (first | omega | (intros; first | omega | (refine ⟨by omega, ?_⟩; repeat (first | assumption | constructor)) | assumption))); intro _; try simp )
          | fail)
  · have e1 : reachedV s w = .tup [.raw (.pointer none), iv (swErr s w)] := by simp [reachedV, h1]
    rw [e1] at hrc
    have e2 : EndsE s w = ([], swErr s w) := by simp [EndsE, h1]
    rw [e2]
    simp [A21]
    try simp 
    repeat' (first
      | (refine CallX.pure (hrc) (by simp) (by simp) ?_; try simp )
      | (refine CallK.intro (hrc) (by simp) (by simp) ?_; try simp )
      | (refine CallG.intro (fun _ => hrc) (by simp) (by simp) ?_; try simp )
      | ((with_reducible refine PreK.intro ?_ ?_); (next => (first | omega | (intros; first | omega | (refine ⟨by omega, ?_⟩; repeat (first | assumption | constructor)) | assumption))); intro _; try simp )
      | fail)
    refine CondK.intro (fun h2 => ?_) (fun h2 => ?_)
    · try simp 
      repeat' (first
        | ((with_reducible refine PreK.intro ?_ ?_); (next => (first | omega | (intros; first | omega | (refine ⟨by omega, ?_⟩; repeat (first | assumption | constructor)) | assumption))); intro _; try simp )
        | fail)
    · simp at h2
      exact absurd h2 h1
end Go.Proofs.Ytkhddecnllcaiaa
end

section
/- Contracts: feed's IsCalm and One. -/
namespace Go.Proofs.Ytkhddecnllcaiaa
open Go.Abs Go
set_option maxRecDepth 20000
set_option maxHeartbeats 2000000
attribute [local irreducible] PreK CondK CallK CallG CallX LoopK
attribute [local simp] avsEq avEq akind teq vkind vEq

theorem calm_all {rows : List (List Int)} : calmB rows = true ↔ ∀ r, r < rows.length → ∀ i, i < (el rows r).length → ∀ k, k < i → commonB (cloB rows (el (el rows r) i).toNat) (cloB rows (el (el rows r) k).toNat) = true := by
  unfold calmB
  simp only [List.all_eq_true, List.mem_range]
  constructor
  · intro hc r hr i hi k hk
    exact hc (el rows r) (by rw [el_eq _ _ hr]; exact List.getElem_mem _) i hi k hk
  · intro hc all hall i hi k hk
    obtain ⟨r, hr, rfl⟩ := mem_el hall
    exact hc r hr i hi k hk
theorem calm_not {rows : List (List Int)} {r i k : Nat} (hr : r < rows.length) (hi : i < (el rows r).length) (hk : k < i) (h : commonB (cloB rows (el (el rows r) i).toNat) (cloB rows (el (el rows r) k).toNat) = false) : calmB rows = false := by
  cases hc : calmB rows with
  | false => rfl
  | true =>
    have := calm_all.1 hc r hr i hi k hk
    rw [h] at this; cases this
/-- To which words steps lead, by their numbers. -/
def rowG (s : List Rule) (g : Gr) (l : Word) : List Int := (NextR s l).map fun v => (posW g.ws v : Int)
def rowsG (s : List Rule) (g : Gr) : List (List Int) := g.ws.map (rowG s g)
theorem mem_NextR {s : List Rule} {w x : Word} : x ∈ NextR s w ↔ x ∈ nxP s w := by
  unfold NextR
  exact (uniq_sorted _).2 x
theorem next_in {s : List Rule} {g : Gr} (hc : Shut s g) {i : Nat} (hi : i < g.ws.length) {x : Word} (hx : x ∈ NextR s (el g.ws i)) : x ∈ g.ws := by
  obtain ⟨m, hm, rfl⟩ := List.mem_map.1 (mem_NextR.1 hx)
  exact hc i hi m hm
theorem rowsG_for {s : List Rule} {g : Gr} (hok : g.ok) (hc : Shut s g) : RowsFor (nxP s) g.ws (rowsG s g) := by
  have hf : ∀ x ∈ g.ws, fine x := fun x hx => fine_of (hok.fine x hx)
  have hel : ∀ i, i < g.ws.length → el (rowsG s g) i = rowG s g (el g.ws i) := fun i hi => el_mapG _ _ hi
  refine ⟨by simp [rowsG], fun i hi q hq => ?_, fun i hi x hx => ?_⟩
  · rw [hel i hi] at hq
    obtain ⟨v, hv, rfl⟩ := List.mem_map.1 hq
    obtain ⟨h1, h2, _⟩ := posW_spec hf (next_in hc hi hv)
    exact ⟨_, rfl, h1, by rw [h2]; exact mem_NextR.1 hv⟩
  · have hv := mem_NextR.2 hx
    obtain ⟨h1, h2, _⟩ := posW_spec hf (next_in hc hi hv)
    exact ⟨_, h1, h2, by rw [hel i hi]; exact List.mem_map.2 ⟨x, hv, rfl⟩⟩
theorem rowsFor_rng {nx : Word → List Word} {ws : List Word} {rows : List (List Int)} (h : RowsFor nx ws rows) : Rng rows := by
  intro j hj p hp
  obtain ⟨k, e, hk, _⟩ := h.to j (by rw [← h.len]; exact hj) (el (el rows j) p) (by rw [el_eq _ _ hp]; exact List.getElem_mem _)
  exact ⟨k, e, by rw [h.len]; exact hk⟩
theorem rowG_len {s : List Rule} {w : Word} (hs : sysErr s = 0) (hw : wordErr w = 0) (g : Gr) : (rowG s g w).length ≤ 54 := by
  unfold rowG NextR
  rw [List.length_map]
  have h1 := uniq_len ((movesM s w).map (·.word))
  have h2 := movesM_len hs hw
  rw [List.length_map] at h1
  omega

theorem leEls_app : ∀ {a b c d : List AV}, leEls a b → leEls c d → leEls (a ++ c) (b ++ d)
  | [], [], c, d, _, h => h
  | x :: a, y :: b, c, d, h, k => ⟨h.1, leEls_app h.2 k⟩
  | [], _ :: _, _, _, h, _ => h.elim
  | _ :: _, [], _, _, h, _ => h.elim
theorem nth_mid (a : List AV) (x : AV) (b : List AV) {i : Nat} (h : a.length = i) : nth (a ++ x :: b) i = x := by
  subst h
  simp [nth, List.getD_eq_getElem?_getD]
theorem set_mid (a : List AV) (x y : AV) (b : List AV) {i : Nat} (h : a.length = i) : (a ++ x :: b).set i y = a ++ y :: b := by
  subst h
  simp [List.set_append]
theorem refsL_words : ∀ l : List (List Int), AV.refsL (l.map ints) = []
  | [] => rfl
  | _ :: l => by simp [AV.refsL, AV.refs, refsL_words l]
theorem refsL_app (a b : List AV) : AV.refsL (a ++ b) = AV.refsL a ++ AV.refsL b := by
  induction a with
  | nil => rfl
  | cons x a ih => simp [AV.refsL, ih]
theorem refsL_rep (n : Nat) (a : AV) (h : a.refs = []) : AV.refsL (List.replicate n a) = [] := by
  induction n with
  | zero => rfl
  | succ n ih => simp [List.replicate_succ, AV.refsL, h, ih]
theorem frzL_words (b : Box) (id : Nat) : ∀ l : List (List Int), frzL b id (l.map ints) = l.map ints
  | [] => rfl
  | _ :: l => by simp [frzL, frzA, frzL_words b id l]
theorem frzL_rep (b : Box) (id n : Nat) (a : AV) (h : frzA b id a = a) : frzL b id (List.replicate n a) = List.replicate n a := by
  induction n with
  | zero => rfl
  | succ n ih => simp [List.replicate_succ, frzL, h, ih]
theorem refsL_seqs (n sz : Nat) (l : List AV) (b : Bool) : AV.refsL (List.replicate n (.seq sz l b)) = [] := refsL_rep n _ rfl
theorem frzL_seqs (b : Box) (id n sz : Nat) (l : List AV) (f : Bool) : frzL b id (List.replicate n (.seq sz l f)) = List.replicate n (.seq sz l f) := frzL_rep b id n _ (by simp [frzA])
def nilV : AV := .seq 1 [] true
/-- The rows of the words ahead. -/
def doneR (s : List Rule) (g : Gr) (i : Nat) : List AV := ((rowsG s g).take i).map ints
theorem doneR_len {s : List Rule} {g : Gr} {i : Nat} (h : i ≤ g.ws.length) : (doneR s g i).length = i := by
  simp [doneR, rowsG]; omega
theorem doneR_succ {s : List Rule} {g : Gr} {i : Nat} (h : i < g.ws.length) : doneR s g (i + 1) = doneR s g i ++ [ints (rowG s g (el g.ws i))] := by
  unfold doneR
  rw [take_succ _ i (by simpa [rowsG] using h), List.map_append]
  have : el (rowsG s g) i = rowG s g (el g.ws i) := el_mapG _ _ h
  rw [this]; rfl
theorem doneR_refs (s : List Rule) (g : Gr) (i : Nat) : AV.refsL (doneR s g i) = [] := refsL_words _
theorem doneR_frz (b : Box) (id : Nat) (s : List Rule) (g : Gr) (i : Nat) : frzL b id (doneR s g i) = doneR s g i := frzL_words b id _
def gIpt (s : List Rule) (g : Gr) : AV := .ipt (graphV s g) 0
/-- The loop over the words: the rows. -/
def rowsI (s : List Rule) (g : Gr) (i : Nat) : St :=
  ⟨[(39, iv i), (38, iv g.ws.length), (37, wordsV g.ws), (8, .sl 33 1 0 g.ws.length), (6, gIpt s g), (0, rulesV s)], [(33, some ⟨1, doneR s g i ++ List.replicate (g.ws.length - i) nilV, 1, true⟩)]⟩
def rowI (s : List Rule) (g : Gr) (i m : Nat) (N : List Word) (q v : Nat) : Bool → St
  | true => ⟨[(48, iv q), (47, iv N.length), (46, wordsV N), (9, iv i), (39, iv i), (38, iv g.ws.length), (37, wordsV g.ws), (8, .sl 33 1 0 g.ws.length), (6, gIpt s g), (0, rulesV s)], [(33, some ⟨1, doneR s g i ++ nilV :: List.replicate m nilV, 1, true⟩)]⟩
  | false => ⟨[(48, iv q), (47, iv N.length), (46, wordsV N), (9, iv i), (39, iv i), (38, iv g.ws.length), (37, wordsV g.ws), (8, .sl 33 1 0 g.ws.length), (6, gIpt s g), (0, rulesV s)], [(66, some ⟨1, ((N.take q).map fun x => (posW g.ws x : Int)).map iv, v, false⟩), (33, some ⟨1, doneR s g i ++ .sl 66 v 0 q :: List.replicate m nilV, 1, true⟩)]⟩
/-- The lists of what is reached. -/
noncomputable def partsL (rows : List (List Int)) (r : Nat) : List AV := (List.range r).map fun k => bools (cloB rows k)
theorem partsL_len (rows : List (List Int)) (r : Nat) : (partsL rows r).length = r := by simp [partsL]
theorem partsL_succ (rows : List (List Int)) (r : Nat) : partsL rows (r + 1) = partsL rows r ++ [bools (cloB rows r)] := by simp [partsL, List.range_succ]
theorem partsL_nth (rows : List (List Int)) (r k : Nat) (h : k < r) : nth (partsL rows r) k = bools (cloB rows k) := by simp [nth, partsL, List.getD_eq_getElem?_getD, h]
theorem isCalm_c (s : List Rule) (w : List Int) (h : Sys.small s) (hw : w.length ≤ 1000) (g : Gr) (h0 : swErr s w = 0) (hg : reachG s w = some g) : CallP Try.prog 22 [rulesV s, ints w] (.tup [bv (calmB (rowsG s g)), iv 0]) := by
  refine C22 (by simp) ?_
  have hrc := reached_c s w h hw
  have e1 : reachedV s w = reachV s (reachG s w) := by simp [reachedV, h0]
  rw [e1, hg] at hrc
  obtain ⟨z1, z2⟩ := swErr_zero h0
  have hok := reachG_ok h0 hg
  have hsh := shut_of hg
  have hnum := hok.num
  have hfor := rowsG_for hok hsh
  have hrng := rowsFor_rng hfor
  have hrl : (rowsG s g).length = g.ws.length := hfor.len
  have hff : ∀ x ∈ g.ws, fine x := fun x hx => fine_of (hok.fine x hx)
  have hrow : ∀ j, j < (rowsG s g).length → (el (rowsG s g) j).length ≤ 100 := by
    intro j hj
    have hj' : j < g.ws.length := by omega
    have := rowG_len z1 (hok.fine _ (el_mem_of g.ws j hj')) g
    have e : el (rowsG s g) j = rowG s g (el g.ws j) := el_mapG _ _ hj'
    rw [e]; omega
  have hclo := fun i hi => closure_c (rowsG s g) i (by omega) hi hrng hrow
  simp only [reachV] at hrc
  have hgi : AV.ipt (graphV s g) 0 = gIpt s g := rfl
  simp only [graphV] at hrc
  simp [A22]
  try simp 
  repeat' (first
    | (refine CallX.pure (hrc) (by simp) (by simp) ?_; try simp )
    | (refine CallK.intro (hrc) (by simp) (by simp) ?_; try simp )
    | (refine CallG.intro (fun _ => hrc) (by simp) (by simp) ?_; try simp )
    | ((with_reducible refine PreK.intro ?_ ?_); (next => (first | omega | (intros; first | omega | (refine ⟨by omega, ?_⟩; repeat (first | assumption | constructor)) | assumption))); intro _; try simp )
    | fail)
  refine CondK.intro (fun h1 => ?_) (fun h1 => ?_)
  · simp at h1
  · repeat (refine PreK.intro (by first | omega | (intros; first | omega | (refine ⟨by omega, ?_⟩; simp_all; done) | (simp_all; done) | (simp_all; omega))) fun _ => ?_; (try simp ))
    refine LoopK.byF (ι := Nat) (rowsI s g) (fun i => g.ws.length - i) (fun i => i ≤ g.ws.length) 0 (Nat.zero_le _) (by simp [rowsI, doneR, gIpt, graphV, nilV, leEls_refl, refsL_seqs]) ?_
    intro i Q' hi hq he hr hfz
    simp only [rowsI, gIpt, graphV]
    try simp 
    refine CondK.intro (fun h2 => ?_) (fun h2 => ?_)
    · simp at h2
      have hu := hok.fine _ (el_mem_of g.ws i h2)
      have hnc := next_c s (el g.ws i) h z1 hu
      have hmem := fun x hx => next_in (x := x) hsh h2 hx
      have hrg : rowG s g (el g.ws i) = (NextR s (el g.ws i)).map fun v => (posW g.ws v : Int) := rfl
      have hN54 := rowG_len z1 hu g
      rw [hrg, List.length_map] at hN54
      have hds := doneR_succ (s := s) (g := g) h2
      rw [hrg] at hds
      generalize NextR s (el g.ws i) = N at hnc hmem hN54 hds
      obtain ⟨m, hm⟩ : ∃ m, g.ws.length - i = m + 1 := ⟨g.ws.length - i - 1, by omega⟩
      have hm2 : g.ws.length - (i + 1) = m := by omega
      have hdl := doneR_len (s := s) (g := g) (i := i) (by omega)
      rw [hm, List.replicate_succ]
      repeat (refine PreK.intro (by first | omega | (intros; first | omega | (refine ⟨by omega, ?_⟩; simp_all; done) | (simp_all; done) | (simp_all; omega))) fun _ => ?_; (try simp [h2]))
      try simp [h2]
      repeat' (first
        | (refine CallX.pure (hnc) (by simp) (by simp) ?_; try simp [h2])
        | (refine CallK.intro (hnc) (by simp) (by simp) ?_; try simp [h2])
        | (refine CallG.intro (fun _ => hnc) (by simp) (by simp) ?_; try simp [h2])
        | ((with_reducible refine PreK.intro ?_ ?_); (next => (first | omega | (intros; first | omega | (refine ⟨by omega, ?_⟩; repeat (first | assumption | constructor)) | assumption))); intro _; try simp [h2])
        | fail)
      refine LoopK.by (ι := Bool × Nat × Nat) (fun x => rowI s g i m N x.2.1 x.2.2 x.1) (fun x => N.length - x.2.1) (fun x => x.2.1 ≤ N.length ∧ (decide (x.2.1 = 0) = x.1)) (true, 0, 0) ⟨Nat.zero_le _, rfl⟩ (by simp [rowI, gIpt, graphV, refsL_app, doneR_refs, AV.refsL, refsL_seqs, nilV, AV.refs]) ?_
      intro ⟨kd, q, v⟩ Q2 ⟨hq', hk⟩ hq2 he2 hr2
      dsimp only at hq' hk
      by_cases h3 : q < N.length
      · have hxm := hmem (el N q) (el_mem_of N q h3)
        obtain ⟨p1, p2, p3⟩ := posW_spec hff hxm
        have hkc := key_c (el N q) (by have := (wordErr_zero (hok.fine _ hxm)).1; omega) (hff _ hxm)
        have hqs : N.take (q + 1) = N.take q ++ [el N q] := take_succ N q h3
        cases kd
        · have hq0 : ¬ q = 0 := by simpa using hk
          have hnm := nth_mid (doneR s g i) (.sl 66 v 0 q) (List.replicate m nilV) hdl
          have hsm := fun y => set_mid (doneR s g i) (.sl 66 v 0 q) y (List.replicate m nilV) hdl
          have hxl : ((N.take q).map fun x => (posW g.ws x : Int)).length = q := by simp; omega
          simp only [rowI, gIpt, graphV]
          generalize hX : (N.take q).map (fun x => (posW g.ws x : Int)) = X at hxl
          try simp [h3]
          repeat (refine PreK.intro (by first | omega | (intros; first | omega | (refine ⟨by omega, ?_⟩; simp_all; done) | (simp_all; done) | (simp_all; omega))) fun _ => ?_; (try simp [h3]))
          refine CondK.tt ?_
          try simp 
          try simp [h3]
          repeat (refine PreK.intro (by first | omega | (intros; first | omega | (refine ⟨by omega, ?_⟩; simp_all; done) | (simp_all; done) | (simp_all; omega))) fun _ => ?_; (try simp [h3]))
          refine CallK.intro (by simpa using hkc) (by simp) (by simp) ?_
          try simp [p3, keysOK_ents, hnm, hsm, hxl]
          repeat (refine PreK.intro (by first | omega | (intros; first | omega | (refine ⟨by omega, ?_⟩; simp_all; done) | (simp_all; done) | (simp_all; omega))) fun _ => ?_; (try simp [p3, keysOK_ents, hnm, hsm, hxl]))
          refine hq2 (false, q + 1, v + 1) _ ⟨by dsimp only; omega, by simp⟩ (by dsimp only; omega) ?_
          have htk : List.take q (X.map iv) = X.map iv := List.take_of_length_le (by simp [hxl])
          simp [rowI, gIpt, graphV, hqs, hX, hxl, htk, refsL_app, doneR_refs, AV.refsL, AV.refs, refsL_seqs, nilV]
        · have hq0 : q = 0 := by simpa using hk
          subst hq0
          have hnm := nth_mid (doneR s g i) nilV (List.replicate m nilV) hdl
          have hsm := fun y => set_mid (doneR s g i) nilV y (List.replicate m nilV) hdl
          simp only [nilV] at hnm hsm
          simp only [rowI, gIpt, graphV, nilV]
          try simp [h3]
          repeat (refine PreK.intro (by first | omega | (intros; first | omega | (refine ⟨by omega, ?_⟩; simp_all; done) | (simp_all; done) | (simp_all; omega))) fun _ => ?_; (try simp [h3]))
          refine CondK.tt ?_
          try simp 
          try simp [h3, hnm, hsm]
          repeat (refine PreK.intro (by first | omega | (intros; first | omega | (refine ⟨by omega, ?_⟩; simp_all; done) | (simp_all; done) | (simp_all; omega))) fun _ => ?_; (try simp [h3, hnm, hsm]))
          refine CallK.intro (by simpa using hkc) (by simp) (by simp) ?_
          try simp [p3, keysOK_ents, hnm, hsm]
          repeat (refine PreK.intro (by first | omega | (intros; first | omega | (refine ⟨by omega, ?_⟩; simp_all; done) | (simp_all; done) | (simp_all; omega))) fun _ => ?_; (try simp [p3, keysOK_ents, hnm, hsm]))
          refine hq2 (false, 1, 1) _ ⟨by dsimp only; omega, by simp⟩ (by dsimp only; omega) ?_
          simp [rowI, gIpt, graphV, hqs, refsL_app, doneR_refs, AV.refsL, AV.refs, refsL_seqs, nilV]
      · have hqe : q = N.length := by omega
        subst hqe
        cases kd
        · simp only [rowI, gIpt, graphV]
          try simp 
          repeat (refine PreK.intro (by first | omega | (intros; first | omega | (refine ⟨by omega, ?_⟩; simp_all; done) | (simp_all; done) | (simp_all; omega))) fun _ => ?_; (try simp ))
          refine CondK.ff ?_
          try simp 
          try simp 
          apply he2
          try simp 
          repeat (refine PreK.intro (by first | omega | (intros; first | omega | (refine ⟨by omega, ?_⟩; simp_all; done) | (simp_all; done) | (simp_all; omega))) fun _ => ?_; (try simp ))
          have hxl : ((N.take N.length).map fun x => (posW g.ws x : Int)).length = N.length := by simp
          refine hfz 66 ⟨1, ((N.take N.length).map fun x => (posW g.ws x : Int)).map iv, v, false⟩ _ (by simp) (by simp) ?_
          refine hq (i + 1) _ (by omega) (by omega) ?_
          simp [rowsI, gIpt, graphV, hds, hm2, nilV, refsL_app, doneR_refs, AV.refsL, AV.refs, refsL_seqs, frzL_append, doneR_frz, frzL_seqs, leEls_refl]
        · have hN0 : N = [] := List.eq_nil_of_length_eq_zero (by simpa using hk)
          subst hN0
          simp only [rowI, gIpt, graphV, nilV]
          try simp 
          repeat (refine PreK.intro (by first | omega | (intros; first | omega | (refine ⟨by omega, ?_⟩; simp_all; done) | (simp_all; done) | (simp_all; omega))) fun _ => ?_; (try simp ))
          refine CondK.ff ?_
          try simp 
          try simp 
          apply he2
          try simp 
          repeat (refine PreK.intro (by first | omega | (intros; first | omega | (refine ⟨by omega, ?_⟩; simp_all; done) | (simp_all; done) | (simp_all; omega))) fun _ => ?_; (try simp ))
          refine hq (i + 1) _ (by omega) (by omega) ?_
          simp [rowsI, gIpt, graphV, hds, hm2, nilV, refsL_app, doneR_refs, AV.refsL, AV.refs, refsL_seqs]
          exact leEls_app (leEls_refl _) ⟨by simp [leE], leEls_refl _⟩
    · simp at h2
      have hie : i = g.ws.length := by omega
      subst hie
      have hdn : doneR s g g.ws.length = (rowsG s g).map ints := by unfold doneR; rw [List.take_of_length_le (by omega)]
      have hdl := doneR_len (s := s) (g := g) (Nat.le_refl g.ws.length)
      rw [Nat.sub_self, List.replicate_zero, List.append_nil]
      try simp 
      apply he
      try simp [hdl]
      repeat (refine PreK.intro (by first | omega | (intros; first | omega | (refine ⟨by omega, ?_⟩; simp_all; done) | (simp_all; done) | (simp_all; omega))) fun _ => ?_; (try simp [hdl]))
      refine LoopK.frz 33 (b := ⟨1, doneR s g g.ws.length, 1, true⟩) (by simp) (by simp [doneR_refs]) ?_
      rw [hdn]
      have hrw1 : ((rowsG s g).map ints).length = g.ws.length := by simp [hrl]
      generalize hrows : rowsG s g = rows at *
      have htk : List.take g.ws.length (rows.map ints) = rows.map ints := List.take_of_length_le (by simp [hrl])
      generalize hC : calmB rows = C
      have hfz0 := frzL_words ⟨1, rows.map ints, 1, true⟩ 33 rows
      refine LoopK.by (ι := Nat) (fun r => ⟨[(78, iv r), (77, iv g.ws.length), (13, .sl 75 1 0 g.ws.length), (8, wordsV rows)], [(75, some ⟨1, partsL rows r ++ List.replicate (g.ws.length - r) nilV, 1, false⟩)]⟩) (fun r => g.ws.length - r) (fun r => r ≤ g.ws.length) 0 (Nat.zero_le _) (by simp [nilV, partsL, hrl, htk]) ?_
      intro r Q2 hr' hq2 he2 hr2
      try simp 
      refine CondK.intro (fun h3 => ?_) (fun h3 => ?_)
      · simp at h3
        have hcl := hclo r (by omega)
        obtain ⟨m, hm⟩ : ∃ m, g.ws.length - r = m + 1 := ⟨g.ws.length - r - 1, by omega⟩
        have hm2 : g.ws.length - (r + 1) = m := by omega
        have hpl := partsL_len rows r
        have hnm := nth_mid (partsL rows r) nilV (List.replicate m nilV) hpl
        have hsm := fun y => set_mid (partsL rows r) nilV y (List.replicate m nilV) hpl
        rw [hm, List.replicate_succ]
        simp only [nilV] at hnm hsm ⊢
        try simp [h3, hrl]
        repeat (refine PreK.intro (by first | omega | (intros; first | omega | (refine ⟨by omega, ?_⟩; simp_all; done) | (simp_all; done) | (simp_all; omega))) fun _ => ?_; (try simp [h3, hrl]))
        refine CallX.pure (by simpa using hcl) (by simp) (by simp) ?_
        try simp [h3, hnm, hsm, hpl, hrl]
        repeat (refine PreK.intro (by first | omega | (intros; first | omega | (refine ⟨by omega, ?_⟩; simp_all; done) | (simp_all; done) | (simp_all; omega))) fun _ => ?_; (try simp [h3, hnm, hsm, hpl, hrl]))
        refine hq2 (r + 1) _ (by omega) (by omega) ?_
        simp [partsL_succ, hm2, nilV]
      · simp at h3
        have hre : r = g.ws.length := by omega
        subst hre
        have hpl := partsL_len rows g.ws.length
        have hpt : List.take g.ws.length (partsL rows g.ws.length) = partsL rows g.ws.length := List.take_of_length_le (by omega)
        rw [Nat.sub_self, List.replicate_zero, List.append_nil]
        try simp 
        apply he2
        try simp [hrl, hpl]
        repeat (refine PreK.intro (by first | omega | (intros; first | omega | (refine ⟨by omega, ?_⟩; simp_all; done) | (simp_all; done) | (simp_all; omega))) fun _ => ?_; (try simp [hrl, hpl]))
        refine LoopK.frz 75 (b := ⟨1, partsL rows g.ws.length, 1, false⟩) (by simp) (by simp) ?_
        refine LoopK.by (ι := Nat) (fun r => ⟨[(90, iv r), (89, iv g.ws.length), (88, wordsV rows), (13, .seq 1 (partsL rows g.ws.length) false)], []⟩) (fun r => g.ws.length - r) (fun r => r ≤ g.ws.length ∧ ∀ r', r' < r → ∀ i, i < (el rows r').length → ∀ k, k < i → commonB (cloB rows (el (el rows r') i).toNat) (cloB rows (el (el rows r') k).toNat) = true)
          0 ⟨Nat.zero_le _, fun r' h => absurd h (Nat.not_lt_zero _)⟩ (by simp [hrl, hpl, hpt]) ?_
        intro r Q3 ⟨hr3, hall⟩ hq3 he3 hr4
        try simp 
        refine CondK.intro (fun h4 => ?_) (fun h4 => ?_)
        · simp at h4
          have h4r : r < rows.length := by omega
          have hrr := hrng r h4r
          have hrl2 := hrow r h4r
          try simp [h4, h4r]
          repeat (refine PreK.intro (by first | omega | (intros; first | omega | (refine ⟨by omega, ?_⟩; simp_all; done) | (simp_all; done) | (simp_all; omega))) fun _ => ?_; (try simp [h4, h4r]))
          generalize hrw : el rows r = row at hrr hrl2
          try simp [h4, h4r, hrw]
          repeat (refine PreK.intro (by first | omega | (intros; first | omega | (refine ⟨by omega, ?_⟩; simp_all; done) | (simp_all; done) | (simp_all; omega))) fun _ => ?_; (try simp [h4, h4r, hrw]))
          refine LoopK.by (ι := Nat) (fun i => ⟨[(96, iv i), (95, iv row.length), (16, ints row), (90, iv r), (89, iv g.ws.length), (88, wordsV rows), (13, .seq 1 (partsL rows g.ws.length) false)], []⟩) (fun i => row.length - i) (fun i => i ≤ row.length ∧ ∀ i', i' < i → ∀ k, k < i' → commonB (cloB rows (el row i').toNat) (cloB rows (el row k).toNat) = true)
            0 ⟨Nat.zero_le _, fun r' h => absurd h (Nat.not_lt_zero _)⟩ (by simp) ?_
          intro i Q4 ⟨hi4, hall4⟩ hq4 he4 hr5
          try simp 
          refine CondK.intro (fun h5 => ?_) (fun h5 => ?_)
          · simp at h5
            try simp [h5]
            repeat (refine PreK.intro (by first | omega | (intros; first | omega | (refine ⟨by omega, ?_⟩; simp_all; done) | (simp_all; done) | (simp_all; omega))) fun _ => ?_; (try simp [h5]))
            refine LoopK.by (ι := Nat) (fun k => ⟨[(100, iv k), (99, iv i), (17, iv i), (96, iv i), (95, iv row.length), (16, ints row), (90, iv r), (89, iv g.ws.length), (88, wordsV rows), (13, .seq 1 (partsL rows g.ws.length) false)], []⟩) (fun k => i - k) (fun k => k ≤ i ∧ ∀ k', k' < k → commonB (cloB rows (el row i).toNat) (cloB rows (el row k').toNat) = true)
              0 ⟨Nat.zero_le _, fun r' h => absurd h (Nat.not_lt_zero _)⟩ (by simp) ?_
            intro k Q5 ⟨hk5, hall5⟩ hq5 he5 hr6
            try simp 
            refine CondK.intro (fun h6 => ?_) (fun h6 => ?_)
            · simp at h6
              have hk6 : k < row.length := by omega
              obtain ⟨a, ea, ha⟩ := hrr i h5
              obtain ⟨b, eb, hb⟩ := hrr k hk6
              have a0 : (0 : Int) ≤ el row i := by omega
              have a1 : (el row i).toNat = a := by omega
              have a2 : el row i < (g.ws.length : Int) := by omega
              have b0 : (0 : Int) ≤ el row k := by omega
              have b1 : (el row k).toNat = b := by omega
              have b2 : el row k < (g.ws.length : Int) := by omega
              have pa := partsL_nth rows g.ws.length a (by omega)
              have pb := partsL_nth rows g.ws.length b (by omega)
              simp only [bools] at pa pb
              have hcm := common_c (cloB rows a) (cloB rows b) (by rw [cloB_len]; omega) (by rw [cloB_len, cloB_len])
              have hca : a < g.ws.length := by omega
              have hcb : b < g.ws.length := by omega
              try simp [h5, hk6, a0, a1, a2, b0, b1, b2, pa, pb, hpl, hca, hcb]
              repeat (refine PreK.intro (by first | omega | (intros; first | omega | (refine ⟨by omega, ?_⟩; simp_all; done) | (simp_all; done) | (simp_all; omega))) fun _ => ?_; (try simp [h5, hk6, a0, a1, a2, b0, b1, b2, pa, pb, hpl, hca, hcb]))
              refine CallK.intro (by simpa using hcm) (by simp) (by simp) ?_
              try simp 
              repeat (refine PreK.intro (by first | omega | (intros; first | omega | (refine ⟨by omega, ?_⟩; simp_all; done) | (simp_all; done) | (simp_all; omega))) fun _ => ?_; (try simp ))
              refine CondK.intro (fun h7 => ?_) (fun h7 => ?_)
              · have hf : commonB (cloB rows a) (cloB rows b) = false := by (try simp at h7); simpa using h7
                have hno : C = false := hC ▸ calm_not (r := r) (i := i) (k := k) h4r (by rw [hrw]; exact h5) h6 (by rw [hrw, a1, b1]; exact hf)
                subst hno
                try simp 
                apply hr6
                try simp 
                apply hr5
                try simp 
                apply hr4
                try simp 
              · have hf : commonB (cloB rows a) (cloB rows b) = true := by (try simp at h7); simpa using h7
                try simp 
                repeat (refine PreK.intro (by first | omega | (intros; first | omega | (refine ⟨by omega, ?_⟩; simp_all; done) | (simp_all; done) | (simp_all; omega))) fun _ => ?_; (try simp ))
                refine hq5 (k + 1) _ ⟨by omega, fun k' hk' => ?_⟩ (by omega) (by simp)
                by_cases e : k' = k
                · subst e; rw [a1, b1]; exact hf
                · exact hall5 k' (by omega)
            · simp at h6
              have hke : k = i := by omega
              subst hke
              try simp 
              apply he5
              try simp 
              repeat (refine PreK.intro (by first | omega | (intros; first | omega | (refine ⟨by omega, ?_⟩; simp_all; done) | (simp_all; done) | (simp_all; omega))) fun _ => ?_; (try simp ))
              refine hq4 (k + 1) _ ⟨by omega, fun i' hi' => ?_⟩ (by omega) (by simp)
              by_cases e : i' = k
              · subst e; exact hall5
              · exact hall4 i' (by omega)
          · simp at h5
            have hie : i = row.length := by omega
            subst hie
            try simp 
            apply he4
            try simp 
            repeat (refine PreK.intro (by first | omega | (intros; first | omega | (refine ⟨by omega, ?_⟩; simp_all; done) | (simp_all; done) | (simp_all; omega))) fun _ => ?_; (try simp ))
            refine hq3 (r + 1) _ ⟨by omega, fun r' hr' => ?_⟩ (by omega) (by simp)
            by_cases e : r' = r
            · subst e; rw [hrw]; exact hall4
            · exact hall r' (by omega)
        · simp at h4
          have hre : r = g.ws.length := by omega
          subst hre
          have hyes : C = true := hC ▸ calm_all.2 fun r hr i hi k hk => hall r (by omega) i hi k hk
          subst hyes
          try simp 
          apply he3
          try simp 
          repeat (refine PreK.intro (by first | omega | (intros; first | omega | (refine ⟨by omega, ?_⟩; simp_all; done) | (simp_all; done) | (simp_all; omega))) fun _ => ?_; (try simp ))
end Go.Proofs.Ytkhddecnllcaiaa
end

section
/- Contracts: equal lists; what is known of feed. -/
namespace Go.Proofs.Ytkhddecnllcaiaa
open Go.Abs Go
set_option maxRecDepth 20000
set_option maxHeartbeats 2000000
attribute [local irreducible] PreK CondK CallK CallG CallX LoopK
attribute [local simp] avsEq avEq akind teq vkind vEq

theorem same1_c (a b : List Int) (ha : a.length ≤ big) : CallP Try.prog 8 [ints a, ints b] (bv (decide (a = b))) := by
  refine C8 (by simp) ?_
  generalize hR : decide (a = b) = R
  simp [A8]
  refine CondK.intro (fun h => ?_) (fun h => ?_)
  · simp at h
    have : a ≠ b := fun e => h (by rw [e])
    simp [this] at hR
    simp [hR]
  · simp at h
    simp
    refine LoopK.by (fun i : Nat => ⟨[(5, iv i), (4, bv false), (0, ints a), (1, ints b)], []⟩) (fun i => a.length - i) (fun i => i ≤ a.length ∧ decide (a.drop i = b.drop i) = R) 0 (by simpa using hR) (by simp) ?_
    intro i Q' ⟨hi, hc⟩ hq he hr
    simp
    refine CondK.intro (fun h2 => ?_) (fun h2 => ?_)
    · simp at h2
      rw [drop_cons a i h2, drop_cons b i (by omega)] at hc
      simp [h2, show i < b.length by omega]
      refine CondK.intro (fun h3 => ?_) (fun h3 => ?_)
      · simp at h3
        simp [h3] at hc
        simp
        apply hr
        simp [hc]
      · simp at h3
        simp [h3] at hc
        simp
        refine PreK.intro (by simp only [big] at ha; omega) fun _ => ?_
        simp
        exact hq (i + 1) _ ⟨by omega, by simpa using hc⟩ (by omega) (by simp)
    · simp at h2
      rw [List.drop_eq_nil_of_le (by omega), List.drop_eq_nil_of_le (by omega)] at hc
      simp at hc
      simp
      apply he
      simp [hc]
theorem sameLists_c (a b : List Word) (ha : a.length ≤ big) (hw : ∀ x ∈ a, x.length ≤ big) : CallP Try.prog 34 [wordsV a, wordsV b] (bv (decide (a = b))) := by
  refine C34 (by simp) ?_
  generalize hR : decide (a = b) = R
  simp only [big] at ha
  simp [A34]
  refine CondK.intro (fun h => ?_) (fun h => ?_)
  · simp at h
    have : a ≠ b := fun e => h (by rw [e])
    simp [this] at hR
    simp [hR]
  · simp at h
    try simp 
    refine LoopK.by (fun i : Nat => ⟨[(5, iv i), (0, wordsV a), (1, wordsV b)], []⟩) (fun i => a.length - i) (fun i => i ≤ a.length ∧ decide (a.drop i = b.drop i) = R) 0 (by simpa using hR) (by simp) ?_
    intro i Q' ⟨hi, hc⟩ hq he hr
    try simp 
    refine CondK.intro (fun h2 => ?_) (fun h2 => ?_)
    · simp at h2
      have h2b : i < b.length := by omega
      have hs := same1_c (el a i) (el b i) (hw _ (el_mem_of a i h2))
      rw [drop_cons a i h2, drop_cons b i h2b] at hc
      repeat (refine PreK.intro (by first | omega | (intros; first | omega | (refine ⟨by omega, ?_⟩; simp_all; done) | (simp_all; done) | (simp_all; omega))) fun _ => ?_; (try simp [h2, h2b]))
      refine CallK.intro (by simpa using hs) (by simp) (by simp) ?_
      try simp 
      repeat (refine PreK.intro (by first | omega | (intros; first | omega | (refine ⟨by omega, ?_⟩; simp_all; done) | (simp_all; done) | (simp_all; omega))) fun _ => ?_; (try simp ))
      refine CondK.intro (fun h3 => ?_) (fun h3 => ?_)
      · simp at h3
        simp [h3] at hc
        try simp 
        apply hr
        simp [hc]
      · simp at h3
        simp [h3] at hc
        repeat (refine PreK.intro (by first | omega | (intros; first | omega | (refine ⟨by omega, ?_⟩; simp_all; done) | (simp_all; done) | (simp_all; omega))) fun _ => ?_; (try simp ))
        exact hq (i + 1) _ ⟨by omega, by simpa using hc⟩ (by omega) (by simp)
    · simp at h2
      rw [List.drop_eq_nil_of_le (by omega), List.drop_eq_nil_of_le (by omega)] at hc
      simp at hc
      try simp 
      apply he
      simp [hc]
end Go.Proofs.Ytkhddecnllcaiaa
end

section
/- Plain: where two derivations differ first; equal ones end alike. -/
namespace Go.Proofs.Ytkhddecnllcaiaa
open Go.Abs Go

end Go.Proofs.Ytkhddecnllcaiaa
end

section
/- Contracts: where derivations differ, and the statement OrderDiffers. -/
namespace Go.Proofs.Ytkhddecnllcaiaa
open Go.Abs Go
attribute [local simp] avsEq avEq akind teq vkind vEq

end Go.Proofs.Ytkhddecnllcaiaa
end

section
/- Contracts: all words; the words that have a form. -/
namespace Go.Proofs.Ytkhddecnllcaiaa
open Go.Abs Go
attribute [local simp] avsEq avEq akind teq vkind vEq

end Go.Proofs.Ytkhddecnllcaiaa
end

section
/- Contracts: lists of words in order; Bases on both sides, and the statement OrderBases. -/
namespace Go.Proofs.Ytkhddecnllcaiaa
open Go.Abs Go
set_option maxRecDepth 20000
set_option maxHeartbeats 2000000
attribute [local irreducible] PreK CondK CallK CallG CallX LoopK
attribute [local simp] avsEq avEq akind teq vkind vEq

def IsEndR (s : List Rule) (w : List Int) : Bool × Int := if swErr s w ≠ 0 then (false, swErr s w) else (decide ((movesM s w).length = 0), 0)
theorem IsEnd_c (s : List Rule) (w : List Int) (h : Sys.small s) (hw : w.length ≤ 1000) : CallP Try.prog 28 [rulesV s, ints w] (.tup [bv (IsEndR s w).1, iv (IsEndR s w).2]) := by
  refine C28 (by simp) ?_
  have hck := check_c s [w] h (by simp) (by simpa using hw)
  rw [check_one] at hck
  simp [A28]
  try simp 
  repeat' (first
    | (refine CallX.pure (hck) (by simp) (by simp) ?_; try simp )
    | (refine CallK.intro (hck) (by simp) (by simp) ?_; try simp )
    | (refine CallG.intro (fun _ => hck) (by simp) (by simp) ?_; try simp )
    | ((with_reducible refine PreK.intro ?_ ?_); (next => (first | omega | (intros; first | omega | (refine ⟨by omega, ?_⟩; repeat (first | assumption | constructor)) | assumption))); intro _; try simp )
    | fail)
  refine CondK.intro (fun h1 => ?_) (fun h1 => ?_)
  · simp at h1
    simp [IsEndR, h1]
  · simp at h1
    obtain ⟨h2, h3⟩ := swErr_zero h1
    try simp 
    repeat' (first
      | (refine CallX.pure (moves_c s w h h2 h3) (by simp) (by simp) ?_; try simp )
      | (refine CallK.intro (moves_c s w h h2 h3) (by simp) (by simp) ?_; try simp )
      | (refine CallG.intro (fun _ => moves_c s w h h2 h3) (by simp) (by simp) ?_; try simp )
      | ((with_reducible refine PreK.intro ?_ ?_); (next => (first | omega | (intros; first | omega | (refine ⟨by omega, ?_⟩; repeat (first | assumption | constructor)) | assumption))); intro _; try simp )
      | fail)
    simp [IsEndR, h1]
end Go.Proofs.Ytkhddecnllcaiaa
end

section
/- Contracts: the statement FeedSteps. -/
namespace Go.Proofs.Ytkhddecnllcaiaa
open Go.Abs Go
attribute [local simp] avsEq avEq akind teq vkind vEq

end Go.Proofs.Ytkhddecnllcaiaa
end

section
/- Contracts: the statement FeedSteps as a contract. -/
namespace Go.Proofs.Ytkhddecnllcaiaa
open Go.Abs Go
set_option maxRecDepth 20000
set_option maxHeartbeats 2000000
attribute [local irreducible] PreK CondK CallK CallG CallX LoopK
attribute [local simp] avsEq avEq akind teq vkind vEq

theorem large2_c (l : List Int) : CallP Try.prog 44 [ints l] (bv (decide (100 < l.length))) := by
  refine C44 (by simp) ?_
  simp [A44]
  omega
def longT (r : Rule) : Bool := decide (100 < r.to.length) || (decide (100 < r.left.length) || decide (100 < r.right.length))
theorem long2_c (r : Rule) : CallP Try.prog 9 [ruleV r] (bv (longT r)) := by
  refine C9 (by simp) ?_
  simp [A9]
  try simp 
  repeat' (first
    | (refine CallX.pure (large2_c r.to) (by simp) (by simp) ?_; try simp )
    | (refine CallK.intro (large2_c r.to) (by simp) (by simp) ?_; try simp )
    | (refine CallG.intro (fun _ => large2_c r.to) (by simp) (by simp) ?_; try simp )
    | (refine CallX.pure (large2_c r.left) (by simp) (by simp) ?_; try simp )
    | (refine CallK.intro (large2_c r.left) (by simp) (by simp) ?_; try simp )
    | (refine CallG.intro (fun _ => large2_c r.left) (by simp) (by simp) ?_; try simp )
    | (refine CallX.pure (large2_c r.right) (by simp) (by simp) ?_; try simp )
    | (refine CallK.intro (large2_c r.right) (by simp) (by simp) ?_; try simp )
    | (refine CallG.intro (fun _ => large2_c r.right) (by simp) (by simp) ?_; try simp )
    | ((with_reducible refine PreK.intro ?_ ?_); (next => (first | omega | (intros; first | omega | (refine ⟨by omega, ?_⟩; repeat (first | assumption | constructor)) | assumption))); intro _; try simp )
    | fail)
  simp [longT, Bool.or_assoc]
def longS (s : List Rule) : Bool := decide (50 < s.length) || s.any longT
theorem long3_c (s : List Rule) (h : s.length ≤ big) : CallP Try.prog 18 [rulesV s] (bv (longS s)) := by
  refine C18 (by simp) ?_
  generalize hR : longS s = R
  unfold longS at hR
  simp only [big] at h
  simp [A18]
  refine CondK.intro (fun h1 => ?_) (fun h1 => ?_)
  · simp at h1
    simp [show 50 < s.length by omega] at hR
    simp [← hR]
  · simp at h1
    simp only [show ¬ 50 < s.length by omega, decide_false, Bool.false_or] at hR
    try simp 
    refine LoopK.by (fun i : Nat => ⟨[(3, iv i), (0, rulesV s)], []⟩) (fun i => s.length - i) (fun i => i ≤ s.length ∧ (s.drop i).any longT = R) 0 (by simpa using hR) (by simp) ?_
    intro i Q' ⟨hi, hc⟩ hq he hr
    try simp 
    refine CondK.intro (fun h2 => ?_) (fun h2 => ?_)
    · simp at h2
      rw [drop_cons s i h2, List.any_cons] at hc
      try simp [h2]
      repeat' (first
        | (refine CallX.pure (long2_c (el s i)) (by simp) (by simp) ?_; try simp [h2])
        | (refine CallK.intro (long2_c (el s i)) (by simp) (by simp) ?_; try simp [h2])
        | (refine CallG.intro (fun _ => long2_c (el s i)) (by simp) (by simp) ?_; try simp [h2])
        | ((with_reducible refine PreK.intro ?_ ?_); (next => (first | omega | (intros; first | omega | (refine ⟨by omega, ?_⟩; repeat (first | assumption | constructor)) | assumption))); intro _; try simp [h2])
        | fail)
      refine CondK.intro (fun h3 => ?_) (fun h3 => ?_)
      · rw [h3] at hc
        try simp 
        apply hr
        simp [← hc]
      · rw [h3] at hc
        try simp 
        repeat' (first
          | ((with_reducible refine PreK.intro ?_ ?_); (next => (first | omega | (intros; first | omega | (refine ⟨by omega, ?_⟩; repeat (first | assumption | constructor)) | assumption))); intro _; try simp )
          | fail)
        exact hq (i + 1) _ ⟨by omega, by simpa using hc⟩ (by omega) (by simp)
    · simp at h2
      rw [List.drop_eq_nil_of_le (by omega)] at hc
      try simp 
      apply he
      simp [← hc]
theorem longS_small {s : List Rule} (h : longS s = false) : Sys.small s := by
  unfold longS at h
  simp only [Bool.or_eq_false_iff, decide_eq_false_iff_not, List.any_eq_false] at h
  refine ⟨by omega, fun r hr => ?_⟩
  have := h.2 r hr
  unfold longT at this
  simp only [Bool.or_eq_true, decide_eq_true_eq, not_or] at this
  exact ⟨by omega, by omega, by omega⟩
end Go.Proofs.Ytkhddecnllcaiaa
end

section
/- Contracts: words put in their places; the reference's next words; parts of lists; the statement FeedNexts. -/
namespace Go.Proofs.Ytkhddecnllcaiaa
open Go.Abs Go
set_option maxRecDepth 20000
set_option maxHeartbeats 2000000
attribute [local irreducible] PreK CondK CallK CallG CallX LoopK
attribute [local simp] avsEq avEq akind teq vkind vEq

end Go.Proofs.Ytkhddecnllcaiaa
end

section
/- PURSE -/
/- Contracts: the reference's search. (written by gen/mkrb.py) -/
namespace Go.Proofs.Ytkhddecnllcaiaa
open Go.Abs Go
set_option maxRecDepth 20000
set_option maxHeartbeats 8000000
attribute [local irreducible] PreK CondK CallK CallG CallX LoopK
attribute [local simp] avsEq avEq akind teq vkind vEq

structure RG.ok (g : RG) : Prop where
  fine : ∀ x ∈ g.ws, wordErr x = 0
  num : g.ws.length ≤ 300
  far : g.far.length = g.ws.length
  low : ∀ j, j < g.far.length → 0 ≤ el g.far j ∧ el g.far j ≤ j
theorem RG.ok.push {g : RG} (h : g.ok) {w : Word} {i : Nat} (hw : wordErr w = 0) (hn : g.ws.length < 300) (hi : i < g.ws.length) : RG.ok ⟨g.ws ++ [w], g.nx, g.far ++ [el g.far i + 1]⟩ := by
  have hf := h.far
  refine ⟨fun x hx => ?_, by simp; omega, by simp [hf], fun j hj => ?_⟩
  · rcases List.mem_append.1 hx with hx | hx
    · exact h.fine x hx
    · simp only [List.mem_singleton] at hx
      subst hx; exact hw
  · simp only [List.length_append, List.length_cons, List.length_nil] at hj
    dsimp only
    by_cases hj2 : j < g.far.length
    · rw [el_app_left _ _ hj2]; exact h.low j hj2
    · have : j = g.far.length := by omega
      subst this
      rw [el_app_mid]
      have := h.low i (by omega)
      omega
def rboxT (g : RG) : List (Nat × Option Box) := [(4, some ⟨3, [.agg [.seq 1 [] true, .seq 1 [] true, .seq 1 [] true]], 1, true⟩), (6, some ⟨3, [.agg [.sl 13 g.ws.length 0 g.ws.length, .seq 1 [] true, .sl 14 g.ws.length 0 g.far.length]], 1, true⟩), (13, some ⟨1, g.ws.map ints, g.ws.length, false⟩), (14, some ⟨1, g.far.map iv, g.ws.length, false⟩)]
def rboxF (g : RG) : List (Nat × Option Box) := [(4, some ⟨3, [.agg [.seq 1 [] true, .seq 1 [] true, .seq 1 [] true]], 1, true⟩), (6, some ⟨3, [.agg [.sl 13 g.ws.length 0 g.ws.length, .sl 79 g.nx.length 0 g.nx.length, .sl 14 g.ws.length 0 g.far.length]], 1, true⟩), (13, some ⟨1, g.ws.map ints, g.ws.length, false⟩), (14, some ⟨1, g.far.map iv, g.ws.length, false⟩), (79, some ⟨1, g.nx.map ints, g.nx.length, false⟩)]
attribute [local simp] rboxT rboxF
end Go.Proofs.Ytkhddecnllcaiaa
end

section
/- Contracts: the reference's Reach; the statement FeedReaches. -/
namespace Go.Proofs.Ytkhddecnllcaiaa
open Go.Abs Go
set_option maxRecDepth 20000
set_option maxHeartbeats 2000000
attribute [local irreducible] PreK CondK CallK CallG CallX LoopK
attribute [local simp] avsEq avEq akind teq vkind vEq

theorem ReachE_small {s : List Rule} {w : Word} : (ReachE s w).1.length ≤ 1000 ∧ ∀ x ∈ (ReachE s w).1, x.length ≤ 1000 := by
  unfold ReachE
  by_cases h0 : swErr s w = 0
  · simp only [h0, ne_eq, not_true_eq_false, if_false]
    cases hg : reachG s w with
    | none => simp
    | some g =>
      have hok := reachG_ok h0 hg
      have hnum := hok.num
      have h1 := uniq_len g.ws
      dsimp only
      refine ⟨by omega, fun x hx => ?_⟩
      have := (wordErr_zero (hok.fine x (((uniq_sorted g.ws).2 x).1 hx))).1
      omega
  · simp [h0]
theorem ReachE_self {s : List Rule} {w : Word} (h : (ReachE s w).2 = 0) : w ∈ (ReachE s w).1 := by
  unfold ReachE at h ⊢
  by_cases h0 : swErr s w = 0
  · simp only [h0, ne_eq, not_true_eq_false, if_false] at h ⊢
    have hG := reachG_F s w
    cases hg : reachG s w with
    | none => rw [hg] at h; cases h
    | some g =>
      rw [hg] at hG
      cases hc : closeM (nxP s) w with
      | none => rw [hc] at hG; exact hG.elim
      | some ws =>
        rw [hc] at hG
        dsimp only at hG ⊢
        rw [(uniq_sorted g.ws).2, hG.words]
        obtain ⟨l, e⟩ := (closeM_some hc).first
        rw [e]; simp
  · simp only [h0, ne_eq, not_false_eq_true, if_true] at h
def partB (a b : List Word) : Bool := a.all fun x => b.any fun y => decide (x = y)
end Go.Proofs.Ytkhddecnllcaiaa
end

section
/- Plain: the reference's longest walk, found in rounds over the edges of its graph. -/
namespace Go.Proofs.Ytkhddecnllcaiaa
open Go.Abs Go

end Go.Proofs.Ytkhddecnllcaiaa
end

section
/- Functions of the cut as the value layer reads them. (written by gen.py) -/
set_option maxRecDepth 20000
namespace Go.Proofs.Ytkhddecnllcaiaa
open Go.Abs Go

end Go.Proofs.Ytkhddecnllcaiaa
end

section
/- Contracts: the reference's longest walk. -/
namespace Go.Proofs.Ytkhddecnllcaiaa
open Go.Abs Go
attribute [local simp] avsEq avEq akind teq vkind vEq

/-- What the loops know of the graph. -/
structure RowsOK (g : RG) : Prop where
  num : g.ws.length ≤ 300
  len : g.nx.length = g.ws.length
  row : ∀ j, j < g.nx.length → (el g.nx j).length ≤ 54
  lt : ∀ j, j < g.nx.length → ∀ q, q < (el g.nx j).length → 0 ≤ el (el g.nx j) q ∧ el (el g.nx j) q < g.ws.length
end Go.Proofs.Ytkhddecnllcaiaa
end

section
/- Contracts: Longest and Forever on both sides; the statement FeedForever. -/
namespace Go.Proofs.Ytkhddecnllcaiaa
open Go.Abs Go
set_option maxRecDepth 20000
set_option maxHeartbeats 2000000
attribute [local irreducible] PreK CondK CallK CallG CallX LoopK
attribute [local simp] avsEq avEq akind teq vkind vEq

def ForeverE (s : List Rule) (w : Word) : Bool × Int := (decide ((LongestE s w).2.2 = 0) && !(LongestE s w).2.1, (LongestE s w).2.2)
theorem Forever_c (s : List Rule) (w : List Int) (h : Sys.small s) (hw : w.length ≤ 1000) : CallP Try.prog 20 [rulesV s, ints w] (.tup [bv (ForeverE s w).1, iv (ForeverE s w).2]) := by
  refine C20 (by simp) ?_
  have hrc := reached_c s w h hw
  by_cases h1 : swErr s w = 0
  · have e1 : reachedV s w = reachV s (reachG s w) := by simp [reachedV, h1]
    rw [e1] at hrc
    cases hg : reachG s w with
    | none =>
      rw [hg] at hrc
      have e2 : ForeverE s w = (false, 3) := by simp [ForeverE, LongestE, h1, hg]
      rw [e2]
      simp only [reachV] at hrc
      simp [A20]
      try simp 
      repeat' (first
        | (refine CallX.pure (hrc) (by simp) (by simp) ?_; try simp )
        | (refine CallK.intro (hrc) (by simp) (by simp) ?_; try simp )
        | (refine CallG.intro (fun _ => hrc) (by simp) (by simp) ?_; try simp )
        | ((with_reducible refine PreK.intro ?_ ?_); (next => (first | omega | (intros; first | omega | (refine ⟨by omega, ?_⟩; repeat (first | assumption | constructor)) | assumption))); intro _; try simp )
        | fail)
      refine CondK.intro (fun h2 => ?_) (fun h2 => ?_)
      · try simp 
        repeat' (first
          | ((with_reducible refine PreK.intro ?_ ?_); (next => (first | omega | (intros; first | omega | (refine ⟨by omega, ?_⟩; repeat (first | assumption | constructor)) | assumption))); intro _; try simp )
          | fail)
      · simp at h2
    | some g =>
      rw [hg] at hrc
      have hec := longest_c s g h (swErr_zero h1).1 (reachG_ok h1 hg) (shut_of hg)
      have e2 : ForeverE s w = (!(LongestG s g).2, 0) := by simp [ForeverE, LongestE, h1, hg]
      rw [e2]
      simp only [reachV, graphV] at hrc
      simp only [graphV] at hec
      generalize LongestG s g = L at hec
      simp [A20]
      try simp 
      repeat' (first
        | (refine CallX.pure (hrc) (by simp) (by simp) ?_; try simp )
        | (refine CallK.intro (hrc) (by simp) (by simp) ?_; try simp )
        | (refine CallG.intro (fun _ => hrc) (by simp) (by simp) ?_; try simp )
        | ((with_reducible refine PreK.intro ?_ ?_); (next => (first | omega | (intros; first | omega | (refine ⟨by omega, ?_⟩; repeat (first | assumption | constructor)) | assumption))); intro _; try simp )
        | fail)
      refine CondK.intro (fun h2 => ?_) (fun h2 => ?_)
      · simp at h2
      · try simp 
        repeat' (first
          | (refine CallX.pure (hec) (by simp) (by simp) ?_; try simp )
          | (refine CallK.intro (hec) (by simp) (by simp) ?_; try simp )
          | (refine CallG.intro (fun _ => hec) (by simp) (by simp) ?_; try simp )
          | ((with_reducible refine PreK.intro ?_ ?_); (next => (first | omega | (intros; first | omega | (refine ⟨by omega, ?_⟩; repeat (first | assumption | constructor)) | assumption))); intro _; try simp )
          | fail)
  · have e1 : reachedV s w = .tup [.raw (.pointer none), iv (swErr s w)] := by simp [reachedV, h1]
    rw [e1] at hrc
    have e2 : ForeverE s w = (false, swErr s w) := by simp [ForeverE, LongestE, h1]
    rw [e2]
    simp [A20]
    try simp 
    repeat' (first
      | (refine CallX.pure (hrc) (by simp) (by simp) ?_; try simp )
      | (refine CallK.intro (hrc) (by simp) (by simp) ?_; try simp )
      | (refine CallG.intro (fun _ => hrc) (by simp) (by simp) ?_; try simp )
      | ((with_reducible refine PreK.intro ?_ ?_); (next => (first | omega | (intros; first | omega | (refine ⟨by omega, ?_⟩; repeat (first | assumption | constructor)) | assumption))); intro _; try simp )
      | fail)
    refine CondK.intro (fun h2 => ?_) (fun h2 => ?_)
    · try simp 
      repeat' (first
        | ((with_reducible refine PreK.intro ?_ ?_); (next => (first | omega | (intros; first | omega | (refine ⟨by omega, ?_⟩; repeat (first | assumption | constructor)) | assumption))); intro _; try simp )
        | fail)
    · simp at h2
      exact absurd h2 h1
end Go.Proofs.Ytkhddecnllcaiaa
end

section
/- Contracts: the ends in the document; the statement FeedEnds. -/
namespace Go.Proofs.Ytkhddecnllcaiaa
open Go.Abs Go
attribute [local simp] avsEq avEq akind teq vkind vEq

theorem EndsE_small {s : List Rule} {w : Word} : (EndsE s w).1.length ≤ 1000 ∧ ∀ x ∈ (EndsE s w).1, x.length ≤ 1000 := by
  unfold EndsE
  by_cases h0 : swErr s w = 0
  · simp only [h0, ne_eq, not_true_eq_false, if_false]
    cases hg : reachG s w with
    | none => simp
    | some g =>
      have hok := reachG_ok h0 hg
      have hnum := hok.num
      have h1 := uniq_len (g.ws.filter (isEndM s))
      have h2 : (g.ws.filter (isEndM s)).length ≤ g.ws.length := List.length_filter_le _ _
      dsimp only
      refine ⟨by omega, fun x hx => ?_⟩
      have := (wordErr_zero (hok.fine x (List.mem_filter.1 (((uniq_sorted _).2 x).1 hx)).1)).1
      omega
  · simp [h0]
/-- The ends are reached, and there is one where steps do not go on for ever. -/
theorem ends_facts {s : List Rule} {w : Word} (h : (EndsE s w).2 = 0) : partB (EndsE s w).1 (ReachE s w).1 = true ∧ (ReachE s w).2 = 0 ∧ (ForeverE s w).2 = 0 ∧ ((ForeverE s w).1 = false → 0 < (EndsE s w).1.length) := by
  have hl := longestE_spec (s := s) (w := w)
  unfold EndsE at h ⊢
  unfold ReachE ForeverE
  unfold LongestE at hl ⊢
  by_cases h0 : swErr s w = 0
  · simp only [h0, ne_eq, not_true_eq_false, if_false] at h hl ⊢
    cases hg : reachG s w with
    | none => rw [hg] at h; cases h
    | some g =>
      rw [hg] at hl
      dsimp only at hl ⊢
      refine ⟨?_, rfl, rfl, fun hf => ?_⟩
      · unfold partB
        rw [List.all_eq_true]
        intro x hx
        have := (List.mem_filter.1 (((uniq_sorted _).2 x).1 hx)).1
        rw [List.any_eq_true]
        exact ⟨x, ((uniq_sorted _).2 x).2 this, by simp⟩
      · have hok : (LongestG s g).2 = true := by simpa using hf
        obtain ⟨⟨m, e, x, hx⟩, hmax⟩ := (hl rfl).fin hok
        have hmem := (closed_mem hg).1 m x hx
        have hend : isEndM s x = true := by
          unfold isEndM
          rw [decide_eq_true_eq]
          apply Classical.byContradiction
          intro hne
          obtain ⟨mv, hmv⟩ := List.exists_mem_of_length_pos (Nat.pos_of_ne_zero hne)
          have := hmax (m + 1) mv.word (.succ hx (List.mem_map.2 ⟨mv, hmv, rfl⟩))
          omega
        have : x ∈ uniq (g.ws.filter (isEndM s)) := ((uniq_sorted _).2 x).2 (List.mem_filter.2 ⟨hmem, hend⟩)
        exact List.length_pos_of_mem this
  · simp only [h0, ne_eq, not_false_eq_true, if_true] at h
end Go.Proofs.Ytkhddecnllcaiaa
end
