/- Part 10 of the proof: the value layer and the contracts of the functions that the statement reaches; proved without conditions beyond those each theorem states. -/
import Derived.Test.YtphkchjhghdhiaaGreatV5
import Derived.Test.YtphkchjhghdhiaaGreatV8
import Derived.Test.YtphkchjhghdhiaaGreatV9
set_option linter.unusedSimpArgs false
set_option linter.unusedVariables false

section
/- PURSE -/
/- The statement SoundSplits: a row becomes two, in new memory. (written by mkspd.py) -/
namespace Go.Proofs.YtphkchjhghdhiaaGreat
open Go.Abs Go
set_option maxRecDepth 20000
set_option maxHeartbeats 8000000
attribute [local irreducible] PreK CondK CallK CallG CallX LoopK
attribute [local simp] avsEq avEq akind teq vkind vEq
attribute [local irreducible] ShiftK

theorem CH3 {args : List AV} {r : AV} (hn : args.length ≤ 118) (h : vcH Tryz.prog T [] [53, 19] A3 (FinH T [.tmp 6] r) (none, ⟨envOf 0 args, []⟩)) : CallP Tryz.prog 3 args r :=
  callP_ofH tok mixed Tryz.func3 (by kernel_rfl) (by kernel_rfl) (by kernel_rfl : Tryz.f3.ntmps = 118) (by kernel_rfl : Tryz.f3.body.bind (strip 118 (fun _ => [])) = some A3) hn h
def namT : Nat → List (List Int) → List AV
  | _, [] => []
  | j, x :: l => .sl (1200 + j) 1 0 x.length :: namT (j + 1) l
def rowT : Nat → List (List Int) → List (Nat × Option Box)
  | _, [] => []
  | j, x :: l => (1200 + j, some ⟨1, x.map iv, 1, false⟩) :: rowT (j + 1) l
theorem len_of2 {l m : List (List Int)} (h : l.map (·.length) = m.map (·.length)) : l.length = m.length := by
  have := congrArg List.length h
  simpa using this
theorem splits_at2 (t : List (List Int)) (k c : Nat) (u0 u1 : List Int) (hs : Sm t) (hL : longT t = false) (hb : t.length ≤ big) (hok : TabOK t) (hk : k < t.length) (hl : t.length < 6) (h1 : 1 ≤ c) (h2 : c < (el t k).length) (he : splitM t k c = [u0, u1]) (hS : SplitR t k c = (splitM t k c, 0)) :
    CallP Tryz.prog 3 [tabV t, iv (k : Int), iv (c : Int)] (bv true) := by
  refine CH3 (by simp) ?_
  have hlg := Long_c t hb
  rw [hL] at hlg
  have hnum := hok.num
  have htl : t.length = 1 := by
    have := split_len (t := t) (k := k) (c := c) hk
    rw [he] at this
    simp at this
    omega
  have hm := Split_m t k c hs hok hk hl h1 h2
  have hW := rSplit_c t k c hs
  rw [hS] at hW
  dsimp only at hW
  have hok2 := split_ok hok hk hl h1 h2
  have hjs := join_split (c := c) hk
  have hsub := split_sub hok hk hl h1 h2
  rw [he] at hm hW hok2 hjs hsub
  rw [htl] at hm
  have hAs : Sm [u0, u1] := ⟨by simp, fun r hr => by
    have h6 := hok2.len
    have := (List.sublist_flatten_of_mem hr).length_le
    omega⟩
  simp only [namS, rowS] at hm
  have hsm := sameLists_c [u0, u1] [u0, u1] (by simp only [List.length_cons, List.length_nil, big]; omega) (fun x hx => by have := hAs.row x hx; simp only [big]; omega)
  have hst := sameLists_c t t hb (fun x hx => by have := hs.row x hx; simp only [big]; omega)
  have hJ := Join_c [u0, u1] (k : Int) hAs
  have eJ : JoinR [u0, u1] (k : Int) = (t, 0) := by
    unfold JoinR
    rw [if_neg (by rw [tabErr_zero.2 hok2]; simp), if_pos ⟨by omega, by simp only [List.length_cons, List.length_nil]; omega⟩, Int.toNat_natCast, hjs]
  rw [eJ] at hJ
  dsimp only at hJ
  have c4 := Classes_c t hs
  have e4 : ClassesE t = (classesM t, 0) := by unfold ClassesE; rw [if_neg (by rw [tabErr_zero.2 hok]; simp)]
  rw [e4] at c4
  have c6 := Classes_c [u0, u1] hAs
  have e6 : ClassesE [u0, u1] = (classesM [u0, u1], 0) := by unfold ClassesE; rw [if_neg (by rw [tabErr_zero.2 hok2]; simp)]
  rw [e6] at c6
  dsimp only at c4 c6
  have n1 : (classesM t).length ≤ 36 := by rw [classes_len hok]; exact names_num hok
  have n2 : (classesM [u0, u1]).length ≤ 36 := by rw [classes_len hok2]; exact names_num hok2
  have c7 := inside_c (classesM t) (classesM [u0, u1]) (by omega) (by omega) (fun x hx => by have := (class_up hok hx).2.2; omega)
  have c8 : ((classesM t).all fun x => decide (x ∈ classesM [u0, u1])) = true := by
    rw [List.all_eq_true]
    intro x hx
    simpa using hsub x hx
  rw [c8] at c7
  generalize classesM t = M1 at *
  generalize classesM [u0, u1] = M2 at *
  have hcp := rCopy_c t hs
  have b0 : u0.length ≤ 100 := hAs.row _ (by simp)
  have b1 : u1.length ≤ 100 := hAs.row _ (by simp)
  simp [A3]
  try simp 
  repeat' (first
    | (refine CallX.pure (hlg) (by simp) (by simp) ?_; try simp )
    | (refine CallK.intro (hlg) (by simp) (by simp) ?_; try simp )
    | (refine CallG.intro (fun _ => hlg) (by simp) (by simp) ?_; try simp )
    | ((with_reducible refine PreK.intro ?_ ?_); (next => (first | omega | (intros; first | omega | (refine ⟨by omega, ?_⟩; repeat (first | assumption | constructor)) | assumption))); intro _; try simp )
    | fail)
  refine CondK.ff ?_
  try simp 
  try simp 
  repeat' (first
    | (refine CallX.pure (hcp) (by simp) (by simp) ?_; try simp )
    | (refine CallK.intro (hcp) (by simp) (by simp) ?_; try simp )
    | (refine CallG.intro (fun _ => hcp) (by simp) (by simp) ?_; try simp )
    | ((with_reducible refine PreK.intro ?_ ?_); (next => (first | omega | (intros; first | omega | (refine ⟨by omega, ?_⟩; repeat (first | assumption | constructor)) | assumption))); intro _; try simp )
    | fail)
  refine CallX.mem 1000 (by simpa using hm) (by simp) (by simp) (by simp) ?_
  try simp 
  repeat (refine PreK.intro (by first | omega | (intros; first | omega | (refine ⟨by omega, ?_⟩; simp_all; done) | (simp_all; done) | (simp_all; omega))) fun _ => ?_; (try simp ))
  try simp 
  repeat' (first
    | (refine CallX.pure (hW) (by simp) (by simp) ?_; try simp )
    | (refine CallK.intro (hW) (by simp) (by simp) ?_; try simp )
    | (refine CallG.intro (fun _ => hW) (by simp) (by simp) ?_; try simp )
    | ((with_reducible refine PreK.intro ?_ ?_); (next => (first | omega | (intros; first | omega | (refine ⟨by omega, ?_⟩; repeat (first | assumption | constructor)) | assumption))); intro _; try simp )
    | fail)
  refine CallX.deep (by simpa using hsm) (by simp) (by simp) ?_
  try simp 
  repeat (refine PreK.intro (by first | omega | (intros; first | omega | (refine ⟨by omega, ?_⟩; simp_all; done) | (simp_all; done) | (simp_all; omega))) fun _ => ?_; (try simp ))
  refine CondK.ff ?_
  try simp 
  try simp 
  repeat (refine PreK.intro (by first | omega | (intros; first | omega | (refine ⟨by omega, ?_⟩; simp_all; done) | (simp_all; done) | (simp_all; omega))) fun _ => ?_; (try simp ))
  refine CondK.ff ?_
  try simp 
  refine ShiftK.start [8, 1, 0] (by simp) ?_
  try simp 
  repeat (refine PreK.intro (by first | omega | (intros; first | omega | (refine ⟨by omega, ?_⟩; simp_all; done) | (simp_all; done) | (simp_all; omega))) fun _ => ?_; (try simp ))
  try simp 
  repeat' (first
    | (refine CallX.pure (hJ) (by simp) (by simp) ?_; try simp )
    | (refine CallK.intro (hJ) (by simp) (by simp) ?_; try simp )
    | (refine CallG.intro (fun _ => hJ) (by simp) (by simp) ?_; try simp )
    | ((with_reducible refine PreK.intro ?_ ?_); (next => (first | omega | (intros; first | omega | (refine ⟨by omega, ?_⟩; repeat (first | assumption | constructor)) | assumption))); intro _; try simp )
    | fail)
  try simp 
  repeat (refine PreK.intro (by first | omega | (intros; first | omega | (refine ⟨by omega, ?_⟩; simp_all; done) | (simp_all; done) | (simp_all; omega))) fun _ => ?_; (try simp ))
  try simp 
  repeat' (first
    | (refine CallX.pure (c4) (by simp) (by simp) ?_; try simp )
    | (refine CallK.intro (c4) (by simp) (by simp) ?_; try simp )
    | (refine CallG.intro (fun _ => c4) (by simp) (by simp) ?_; try simp )
    | ((with_reducible refine PreK.intro ?_ ?_); (next => (first | omega | (intros; first | omega | (refine ⟨by omega, ?_⟩; repeat (first | assumption | constructor)) | assumption))); intro _; try simp )
    | fail)
  try simp 
  repeat (refine PreK.intro (by first | omega | (intros; first | omega | (refine ⟨by omega, ?_⟩; simp_all; done) | (simp_all; done) | (simp_all; omega))) fun _ => ?_; (try simp ))
  try simp 
  repeat' (first
    | (refine CallX.pure (c6) (by simp) (by simp) ?_; try simp )
    | (refine CallK.intro (c6) (by simp) (by simp) ?_; try simp )
    | (refine CallG.intro (fun _ => c6) (by simp) (by simp) ?_; try simp )
    | ((with_reducible refine PreK.intro ?_ ?_); (next => (first | omega | (intros; first | omega | (refine ⟨by omega, ?_⟩; repeat (first | assumption | constructor)) | assumption))); intro _; try simp )
    | fail)
  try simp 
  repeat (refine PreK.intro (by first | omega | (intros; first | omega | (refine ⟨by omega, ?_⟩; simp_all; done) | (simp_all; done) | (simp_all; omega))) fun _ => ?_; (try simp ))
  try simp 
  repeat' (first
    | (refine CallX.pure (hst) (by simp) (by simp) ?_; try simp )
    | (refine CallK.intro (hst) (by simp) (by simp) ?_; try simp )
    | (refine CallG.intro (fun _ => hst) (by simp) (by simp) ?_; try simp )
    | ((with_reducible refine PreK.intro ?_ ?_); (next => (first | omega | (intros; first | omega | (refine ⟨by omega, ?_⟩; repeat (first | assumption | constructor)) | assumption))); intro _; try simp )
    | fail)
  try simp 
  repeat (refine PreK.intro (by first | omega | (intros; first | omega | (refine ⟨by omega, ?_⟩; simp_all; done) | (simp_all; done) | (simp_all; omega))) fun _ => ?_; (try simp ))
  try simp 
  repeat' (first
    | (refine CallX.pure (c7) (by simp) (by simp) ?_; try simp )
    | (refine CallK.intro (c7) (by simp) (by simp) ?_; try simp )
    | (refine CallG.intro (fun _ => c7) (by simp) (by simp) ?_; try simp )
    | ((with_reducible refine PreK.intro ?_ ?_); (next => (first | omega | (intros; first | omega | (refine ⟨by omega, ?_⟩; repeat (first | assumption | constructor)) | assumption))); intro _; try simp )
    | fail)
  try simp 
  repeat (refine PreK.intro (by first | omega | (intros; first | omega | (refine ⟨by omega, ?_⟩; simp_all; done) | (simp_all; done) | (simp_all; omega))) fun _ => ?_; (try simp ))
  refine ShiftK.stop [18] [0, 7, 8] (by simp) (by simp) ?_
  try simp 
  repeat (refine PreK.intro (by first | omega | (intros; first | omega | (refine ⟨by omega, ?_⟩; simp_all; done) | (simp_all; done) | (simp_all; omega))) fun _ => ?_; (try simp ))
  refine LoopK.by (ι := Nat × List (List Int)) (fun x => ⟨[(19, iv x.1), (18, bv true), (8, .sl 2003 3 0 2), (7, tabV t), (0, tabV t)], (2003, some ⟨1, namT 0 [u0, u1], 3, true⟩) :: rowT 0 x.2⟩) (fun x => 2 - x.1)
    (fun x => x.1 ≤ 2 ∧ x.2.map (·.length) = ([u0, u1] : List (List Int)).map (·.length)) (0, [u0, u1]) ⟨Nat.zero_le _, rfl⟩ (by simp [namT, rowT]) ?_
  intro ⟨i, tos⟩ Q' ⟨hi, hl⟩ hq he hr
  dsimp only at hi hl
  have hln := len_of2 hl
  obtain ⟨y0, y1, rfl⟩ : ∃ y0 y1, tos = [y0, y1] := by
    match tos, hln with
    | [y0, y1], _ => exact ⟨y0, y1, rfl⟩
  simp only [List.map_cons, List.map_nil, List.cons.injEq, and_true] at hl
  obtain ⟨ly0, ly1⟩ := hl
  have hi6 : i = 0 ∨ i = 1 ∨ i = 2 := by omega
  rcases hi6 with rfl | rfl | rfl
  · simp only [namT, rowT]
    try simp 
    repeat (refine PreK.intro (by first | omega | (intros; first | omega | (refine ⟨by omega, ?_⟩; simp_all; done) | (simp_all; done) | (simp_all; omega))) fun _ => ?_; (try simp ))
    refine CondK.tt ?_
    try simp 
    try simp 
    repeat (refine PreK.intro (by first | omega | (intros; first | omega | (refine ⟨by omega, ?_⟩; simp_all; done) | (simp_all; done) | (simp_all; omega))) fun _ => ?_; (try simp ))
    refine LoopK.by (ι := Nat × List Int) (fun y => ⟨[(20, iv y.1), (19, iv 0), (18, bv true), (8, .sl 2003 3 0 2), (7, tabV t), (0, tabV t)], [(2003, some ⟨1, namT 0 [u0, u1], 3, true⟩), (1200, some ⟨1, y.2.map iv, 1, false⟩), (1201, some ⟨1, y1.map iv, 1, false⟩)]⟩) (fun y => u0.length - y.1)
      (fun y => y.1 ≤ u0.length ∧ y.2.length = u0.length) (0, y0) ⟨Nat.zero_le _, ly0⟩ (by simp [namT]) ?_
    intro ⟨j, y⟩ Q2 ⟨hj, hy⟩ hq2 he2 hr2
    dsimp only at hj hy
    simp only [namT]
    try simp 
    repeat (refine PreK.intro (by first | omega | (intros; first | omega | (refine ⟨by omega, ?_⟩; simp_all; done) | (simp_all; done) | (simp_all; omega))) fun _ => ?_; (try simp ))
    refine CondK.intro (fun h3 => ?_) (fun h3 => ?_)
    · simp at h3
      have hjy : j < y.length := by omega
      try simp [h3, hjy, hy]
      repeat (refine PreK.intro (by first | omega | (intros; first | omega | (refine ⟨by omega, ?_⟩; simp_all; done) | (simp_all; done) | (simp_all; omega))) fun _ => ?_; (try simp [h3, hjy, hy]))
      refine hq2 (j + 1, y.set j (-1)) _ ⟨by dsimp only; omega, by simpa using hy⟩ (by dsimp only; omega) ?_
      simp [List.map_set, namT]
    · simp at h3
      try simp 
      apply he2
      try simp 
      repeat (refine PreK.intro (by first | omega | (intros; first | omega | (refine ⟨by omega, ?_⟩; simp_all; done) | (simp_all; done) | (simp_all; omega))) fun _ => ?_; (try simp ))
      refine hq (1, [y, y1]) _ ⟨by dsimp only; omega, by simp [hy, ly1]⟩ (by dsimp only; omega) ?_
      simp [namT, rowT]
  · simp only [namT, rowT]
    try simp 
    repeat (refine PreK.intro (by first | omega | (intros; first | omega | (refine ⟨by omega, ?_⟩; simp_all; done) | (simp_all; done) | (simp_all; omega))) fun _ => ?_; (try simp ))
    refine CondK.tt ?_
    try simp 
    try simp 
    repeat (refine PreK.intro (by first | omega | (intros; first | omega | (refine ⟨by omega, ?_⟩; simp_all; done) | (simp_all; done) | (simp_all; omega))) fun _ => ?_; (try simp ))
    refine LoopK.by (ι := Nat × List Int) (fun y => ⟨[(20, iv y.1), (19, iv 1), (18, bv true), (8, .sl 2003 3 0 2), (7, tabV t), (0, tabV t)], [(2003, some ⟨1, namT 0 [u0, u1], 3, true⟩), (1200, some ⟨1, y0.map iv, 1, false⟩), (1201, some ⟨1, y.2.map iv, 1, false⟩)]⟩) (fun y => u1.length - y.1)
      (fun y => y.1 ≤ u1.length ∧ y.2.length = u1.length) (0, y1) ⟨Nat.zero_le _, ly1⟩ (by simp [namT]) ?_
    intro ⟨j, y⟩ Q2 ⟨hj, hy⟩ hq2 he2 hr2
    dsimp only at hj hy
    simp only [namT]
    try simp 
    repeat (refine PreK.intro (by first | omega | (intros; first | omega | (refine ⟨by omega, ?_⟩; simp_all; done) | (simp_all; done) | (simp_all; omega))) fun _ => ?_; (try simp ))
    refine CondK.intro (fun h3 => ?_) (fun h3 => ?_)
    · simp at h3
      have hjy : j < y.length := by omega
      try simp [h3, hjy, hy]
      repeat (refine PreK.intro (by first | omega | (intros; first | omega | (refine ⟨by omega, ?_⟩; simp_all; done) | (simp_all; done) | (simp_all; omega))) fun _ => ?_; (try simp [h3, hjy, hy]))
      refine hq2 (j + 1, y.set j (-1)) _ ⟨by dsimp only; omega, by simpa using hy⟩ (by dsimp only; omega) ?_
      simp [List.map_set, namT]
    · simp at h3
      try simp 
      apply he2
      try simp 
      repeat (refine PreK.intro (by first | omega | (intros; first | omega | (refine ⟨by omega, ?_⟩; simp_all; done) | (simp_all; done) | (simp_all; omega))) fun _ => ?_; (try simp ))
      refine hq (2, [y0, y]) _ ⟨by dsimp only; omega, by simp [ly0, hy]⟩ (by dsimp only; omega) ?_
      simp [namT, rowT]
  · simp only [namT, rowT]
    try simp 
    repeat (refine PreK.intro (by first | omega | (intros; first | omega | (refine ⟨by omega, ?_⟩; simp_all; done) | (simp_all; done) | (simp_all; omega))) fun _ => ?_; (try simp ))
    refine CondK.ff ?_
    try simp 
    try simp 
    apply he
    try simp 
    repeat' (first
      | (refine CallX.pure (hst) (by simp) (by simp) ?_; try simp )
      | (refine CallK.intro (hst) (by simp) (by simp) ?_; try simp )
      | (refine CallG.intro (fun _ => hst) (by simp) (by simp) ?_; try simp )
      | (refine CallX.pure (known_c) (by simp) (by simp) ?_; try simp )
      | (refine CallK.intro (known_c) (by simp) (by simp) ?_; try simp )
      | (refine CallG.intro (fun _ => known_c) (by simp) (by simp) ?_; try simp )
      | ((with_reducible refine PreK.intro ?_ ?_); (next => (first | omega | (intros; first | omega | (refine ⟨by omega, ?_⟩; repeat (first | assumption | constructor)) | assumption))); intro _; try simp )
      | fail)
theorem splits_at3 (t : List (List Int)) (k c : Nat) (u0 u1 u2 : List Int) (hs : Sm t) (hL : longT t = false) (hb : t.length ≤ big) (hok : TabOK t) (hk : k < t.length) (hl : t.length < 6) (h1 : 1 ≤ c) (h2 : c < (el t k).length) (he : splitM t k c = [u0, u1, u2]) (hS : SplitR t k c = (splitM t k c, 0)) :
    CallP Tryz.prog 3 [tabV t, iv (k : Int), iv (c : Int)] (bv true) := by
  refine CH3 (by simp) ?_
  have hlg := Long_c t hb
  rw [hL] at hlg
  have hnum := hok.num
  have htl : t.length = 2 := by
    have := split_len (t := t) (k := k) (c := c) hk
    rw [he] at this
    simp at this
    omega
  have hm := Split_m t k c hs hok hk hl h1 h2
  have hW := rSplit_c t k c hs
  rw [hS] at hW
  dsimp only at hW
  have hok2 := split_ok hok hk hl h1 h2
  have hjs := join_split (c := c) hk
  have hsub := split_sub hok hk hl h1 h2
  rw [he] at hm hW hok2 hjs hsub
  rw [htl] at hm
  have hAs : Sm [u0, u1, u2] := ⟨by simp, fun r hr => by
    have h6 := hok2.len
    have := (List.sublist_flatten_of_mem hr).length_le
    omega⟩
  simp only [namS, rowS] at hm
  have hsm := sameLists_c [u0, u1, u2] [u0, u1, u2] (by simp only [List.length_cons, List.length_nil, big]; omega) (fun x hx => by have := hAs.row x hx; simp only [big]; omega)
  have hst := sameLists_c t t hb (fun x hx => by have := hs.row x hx; simp only [big]; omega)
  have hJ := Join_c [u0, u1, u2] (k : Int) hAs
  have eJ : JoinR [u0, u1, u2] (k : Int) = (t, 0) := by
    unfold JoinR
    rw [if_neg (by rw [tabErr_zero.2 hok2]; simp), if_pos ⟨by omega, by simp only [List.length_cons, List.length_nil]; omega⟩, Int.toNat_natCast, hjs]
  rw [eJ] at hJ
  dsimp only at hJ
  have c4 := Classes_c t hs
  have e4 : ClassesE t = (classesM t, 0) := by unfold ClassesE; rw [if_neg (by rw [tabErr_zero.2 hok]; simp)]
  rw [e4] at c4
  have c6 := Classes_c [u0, u1, u2] hAs
  have e6 : ClassesE [u0, u1, u2] = (classesM [u0, u1, u2], 0) := by unfold ClassesE; rw [if_neg (by rw [tabErr_zero.2 hok2]; simp)]
  rw [e6] at c6
  dsimp only at c4 c6
  have n1 : (classesM t).length ≤ 36 := by rw [classes_len hok]; exact names_num hok
  have n2 : (classesM [u0, u1, u2]).length ≤ 36 := by rw [classes_len hok2]; exact names_num hok2
  have c7 := inside_c (classesM t) (classesM [u0, u1, u2]) (by omega) (by omega) (fun x hx => by have := (class_up hok hx).2.2; omega)
  have c8 : ((classesM t).all fun x => decide (x ∈ classesM [u0, u1, u2])) = true := by
    rw [List.all_eq_true]
    intro x hx
    simpa using hsub x hx
  rw [c8] at c7
  generalize classesM t = M1 at *
  generalize classesM [u0, u1, u2] = M2 at *
  have hcp := rCopy_c t hs
  have b0 : u0.length ≤ 100 := hAs.row _ (by simp)
  have b1 : u1.length ≤ 100 := hAs.row _ (by simp)
  have b2 : u2.length ≤ 100 := hAs.row _ (by simp)
  simp [A3]
  try simp 
  repeat' (first
    | (refine CallX.pure (hlg) (by simp) (by simp) ?_; try simp )
    | (refine CallK.intro (hlg) (by simp) (by simp) ?_; try simp )
    | (refine CallG.intro (fun _ => hlg) (by simp) (by simp) ?_; try simp )
    | ((with_reducible refine PreK.intro ?_ ?_); (next => (first | omega | (intros; first | omega | (refine ⟨by omega, ?_⟩; repeat (first | assumption | constructor)) | assumption))); intro _; try simp )
    | fail)
  refine CondK.ff ?_
  try simp 
  try simp 
  repeat' (first
    | (refine CallX.pure (hcp) (by simp) (by simp) ?_; try simp )
    | (refine CallK.intro (hcp) (by simp) (by simp) ?_; try simp )
    | (refine CallG.intro (fun _ => hcp) (by simp) (by simp) ?_; try simp )
    | ((with_reducible refine PreK.intro ?_ ?_); (next => (first | omega | (intros; first | omega | (refine ⟨by omega, ?_⟩; repeat (first | assumption | constructor)) | assumption))); intro _; try simp )
    | fail)
  refine CallX.mem 1000 (by simpa using hm) (by simp) (by simp) (by simp) ?_
  try simp 
  repeat (refine PreK.intro (by first | omega | (intros; first | omega | (refine ⟨by omega, ?_⟩; simp_all; done) | (simp_all; done) | (simp_all; omega))) fun _ => ?_; (try simp ))
  try simp 
  repeat' (first
    | (refine CallX.pure (hW) (by simp) (by simp) ?_; try simp )
    | (refine CallK.intro (hW) (by simp) (by simp) ?_; try simp )
    | (refine CallG.intro (fun _ => hW) (by simp) (by simp) ?_; try simp )
    | ((with_reducible refine PreK.intro ?_ ?_); (next => (first | omega | (intros; first | omega | (refine ⟨by omega, ?_⟩; repeat (first | assumption | constructor)) | assumption))); intro _; try simp )
    | fail)
  refine CallX.deep (by simpa using hsm) (by simp) (by simp) ?_
  try simp 
  repeat (refine PreK.intro (by first | omega | (intros; first | omega | (refine ⟨by omega, ?_⟩; simp_all; done) | (simp_all; done) | (simp_all; omega))) fun _ => ?_; (try simp ))
  refine CondK.ff ?_
  try simp 
  try simp 
  repeat (refine PreK.intro (by first | omega | (intros; first | omega | (refine ⟨by omega, ?_⟩; simp_all; done) | (simp_all; done) | (simp_all; omega))) fun _ => ?_; (try simp ))
  refine CondK.ff ?_
  try simp 
  refine ShiftK.start [8, 1, 0] (by simp) ?_
  try simp 
  repeat (refine PreK.intro (by first | omega | (intros; first | omega | (refine ⟨by omega, ?_⟩; simp_all; done) | (simp_all; done) | (simp_all; omega))) fun _ => ?_; (try simp ))
  try simp 
  repeat' (first
    | (refine CallX.pure (hJ) (by simp) (by simp) ?_; try simp )
    | (refine CallK.intro (hJ) (by simp) (by simp) ?_; try simp )
    | (refine CallG.intro (fun _ => hJ) (by simp) (by simp) ?_; try simp )
    | ((with_reducible refine PreK.intro ?_ ?_); (next => (first | omega | (intros; first | omega | (refine ⟨by omega, ?_⟩; repeat (first | assumption | constructor)) | assumption))); intro _; try simp )
    | fail)
  try simp 
  repeat (refine PreK.intro (by first | omega | (intros; first | omega | (refine ⟨by omega, ?_⟩; simp_all; done) | (simp_all; done) | (simp_all; omega))) fun _ => ?_; (try simp ))
  try simp 
  repeat' (first
    | (refine CallX.pure (c4) (by simp) (by simp) ?_; try simp )
    | (refine CallK.intro (c4) (by simp) (by simp) ?_; try simp )
    | (refine CallG.intro (fun _ => c4) (by simp) (by simp) ?_; try simp )
    | ((with_reducible refine PreK.intro ?_ ?_); (next => (first | omega | (intros; first | omega | (refine ⟨by omega, ?_⟩; repeat (first | assumption | constructor)) | assumption))); intro _; try simp )
    | fail)
  try simp 
  repeat (refine PreK.intro (by first | omega | (intros; first | omega | (refine ⟨by omega, ?_⟩; simp_all; done) | (simp_all; done) | (simp_all; omega))) fun _ => ?_; (try simp ))
  try simp 
  repeat' (first
    | (refine CallX.pure (c6) (by simp) (by simp) ?_; try simp )
    | (refine CallK.intro (c6) (by simp) (by simp) ?_; try simp )
    | (refine CallG.intro (fun _ => c6) (by simp) (by simp) ?_; try simp )
    | ((with_reducible refine PreK.intro ?_ ?_); (next => (first | omega | (intros; first | omega | (refine ⟨by omega, ?_⟩; repeat (first | assumption | constructor)) | assumption))); intro _; try simp )
    | fail)
  try simp 
  repeat (refine PreK.intro (by first | omega | (intros; first | omega | (refine ⟨by omega, ?_⟩; simp_all; done) | (simp_all; done) | (simp_all; omega))) fun _ => ?_; (try simp ))
  try simp 
  repeat' (first
    | (refine CallX.pure (hst) (by simp) (by simp) ?_; try simp )
    | (refine CallK.intro (hst) (by simp) (by simp) ?_; try simp )
    | (refine CallG.intro (fun _ => hst) (by simp) (by simp) ?_; try simp )
    | ((with_reducible refine PreK.intro ?_ ?_); (next => (first | omega | (intros; first | omega | (refine ⟨by omega, ?_⟩; repeat (first | assumption | constructor)) | assumption))); intro _; try simp )
    | fail)
  try simp 
  repeat (refine PreK.intro (by first | omega | (intros; first | omega | (refine ⟨by omega, ?_⟩; simp_all; done) | (simp_all; done) | (simp_all; omega))) fun _ => ?_; (try simp ))
  try simp 
  repeat' (first
    | (refine CallX.pure (c7) (by simp) (by simp) ?_; try simp )
    | (refine CallK.intro (c7) (by simp) (by simp) ?_; try simp )
    | (refine CallG.intro (fun _ => c7) (by simp) (by simp) ?_; try simp )
    | ((with_reducible refine PreK.intro ?_ ?_); (next => (first | omega | (intros; first | omega | (refine ⟨by omega, ?_⟩; repeat (first | assumption | constructor)) | assumption))); intro _; try simp )
    | fail)
  try simp 
  repeat (refine PreK.intro (by first | omega | (intros; first | omega | (refine ⟨by omega, ?_⟩; simp_all; done) | (simp_all; done) | (simp_all; omega))) fun _ => ?_; (try simp ))
  refine ShiftK.stop [18] [0, 7, 8] (by simp) (by simp) ?_
  try simp 
  repeat (refine PreK.intro (by first | omega | (intros; first | omega | (refine ⟨by omega, ?_⟩; simp_all; done) | (simp_all; done) | (simp_all; omega))) fun _ => ?_; (try simp ))
  refine LoopK.by (ι := Nat × List (List Int)) (fun x => ⟨[(19, iv x.1), (18, bv true), (8, .sl 2003 4 0 3), (7, tabV t), (0, tabV t)], (2003, some ⟨1, namT 0 [u0, u1, u2], 4, true⟩) :: rowT 0 x.2⟩) (fun x => 3 - x.1)
    (fun x => x.1 ≤ 3 ∧ x.2.map (·.length) = ([u0, u1, u2] : List (List Int)).map (·.length)) (0, [u0, u1, u2]) ⟨Nat.zero_le _, rfl⟩ (by simp [namT, rowT]) ?_
  intro ⟨i, tos⟩ Q' ⟨hi, hl⟩ hq he hr
  dsimp only at hi hl
  have hln := len_of2 hl
  obtain ⟨y0, y1, y2, rfl⟩ : ∃ y0 y1 y2, tos = [y0, y1, y2] := by
    match tos, hln with
    | [y0, y1, y2], _ => exact ⟨y0, y1, y2, rfl⟩
  simp only [List.map_cons, List.map_nil, List.cons.injEq, and_true] at hl
  obtain ⟨ly0, ly1, ly2⟩ := hl
  have hi6 : i = 0 ∨ i = 1 ∨ i = 2 ∨ i = 3 := by omega
  rcases hi6 with rfl | rfl | rfl | rfl
  · simp only [namT, rowT]
    try simp 
    repeat (refine PreK.intro (by first | omega | (intros; first | omega | (refine ⟨by omega, ?_⟩; simp_all; done) | (simp_all; done) | (simp_all; omega))) fun _ => ?_; (try simp ))
    refine CondK.tt ?_
    try simp 
    try simp 
    repeat (refine PreK.intro (by first | omega | (intros; first | omega | (refine ⟨by omega, ?_⟩; simp_all; done) | (simp_all; done) | (simp_all; omega))) fun _ => ?_; (try simp ))
    refine LoopK.by (ι := Nat × List Int) (fun y => ⟨[(20, iv y.1), (19, iv 0), (18, bv true), (8, .sl 2003 4 0 3), (7, tabV t), (0, tabV t)], [(2003, some ⟨1, namT 0 [u0, u1, u2], 4, true⟩), (1200, some ⟨1, y.2.map iv, 1, false⟩), (1201, some ⟨1, y1.map iv, 1, false⟩), (1202, some ⟨1, y2.map iv, 1, false⟩)]⟩) (fun y => u0.length - y.1)
      (fun y => y.1 ≤ u0.length ∧ y.2.length = u0.length) (0, y0) ⟨Nat.zero_le _, ly0⟩ (by simp [namT]) ?_
    intro ⟨j, y⟩ Q2 ⟨hj, hy⟩ hq2 he2 hr2
    dsimp only at hj hy
    simp only [namT]
    try simp 
    repeat (refine PreK.intro (by first | omega | (intros; first | omega | (refine ⟨by omega, ?_⟩; simp_all; done) | (simp_all; done) | (simp_all; omega))) fun _ => ?_; (try simp ))
    refine CondK.intro (fun h3 => ?_) (fun h3 => ?_)
    · simp at h3
      have hjy : j < y.length := by omega
      try simp [h3, hjy, hy]
      repeat (refine PreK.intro (by first | omega | (intros; first | omega | (refine ⟨by omega, ?_⟩; simp_all; done) | (simp_all; done) | (simp_all; omega))) fun _ => ?_; (try simp [h3, hjy, hy]))
      refine hq2 (j + 1, y.set j (-1)) _ ⟨by dsimp only; omega, by simpa using hy⟩ (by dsimp only; omega) ?_
      simp [List.map_set, namT]
    · simp at h3
      try simp 
      apply he2
      try simp 
      repeat (refine PreK.intro (by first | omega | (intros; first | omega | (refine ⟨by omega, ?_⟩; simp_all; done) | (simp_all; done) | (simp_all; omega))) fun _ => ?_; (try simp ))
      refine hq (1, [y, y1, y2]) _ ⟨by dsimp only; omega, by simp [hy, ly1, ly2]⟩ (by dsimp only; omega) ?_
      simp [namT, rowT]
  · simp only [namT, rowT]
    try simp 
    repeat (refine PreK.intro (by first | omega | (intros; first | omega | (refine ⟨by omega, ?_⟩; simp_all; done) | (simp_all; done) | (simp_all; omega))) fun _ => ?_; (try simp ))
    refine CondK.tt ?_
    try simp 
    try simp 
    repeat (refine PreK.intro (by first | omega | (intros; first | omega | (refine ⟨by omega, ?_⟩; simp_all; done) | (simp_all; done) | (simp_all; omega))) fun _ => ?_; (try simp ))
    refine LoopK.by (ι := Nat × List Int) (fun y => ⟨[(20, iv y.1), (19, iv 1), (18, bv true), (8, .sl 2003 4 0 3), (7, tabV t), (0, tabV t)], [(2003, some ⟨1, namT 0 [u0, u1, u2], 4, true⟩), (1200, some ⟨1, y0.map iv, 1, false⟩), (1201, some ⟨1, y.2.map iv, 1, false⟩), (1202, some ⟨1, y2.map iv, 1, false⟩)]⟩) (fun y => u1.length - y.1)
      (fun y => y.1 ≤ u1.length ∧ y.2.length = u1.length) (0, y1) ⟨Nat.zero_le _, ly1⟩ (by simp [namT]) ?_
    intro ⟨j, y⟩ Q2 ⟨hj, hy⟩ hq2 he2 hr2
    dsimp only at hj hy
    simp only [namT]
    try simp 
    repeat (refine PreK.intro (by first | omega | (intros; first | omega | (refine ⟨by omega, ?_⟩; simp_all; done) | (simp_all; done) | (simp_all; omega))) fun _ => ?_; (try simp ))
    refine CondK.intro (fun h3 => ?_) (fun h3 => ?_)
    · simp at h3
      have hjy : j < y.length := by omega
      try simp [h3, hjy, hy]
      repeat (refine PreK.intro (by first | omega | (intros; first | omega | (refine ⟨by omega, ?_⟩; simp_all; done) | (simp_all; done) | (simp_all; omega))) fun _ => ?_; (try simp [h3, hjy, hy]))
      refine hq2 (j + 1, y.set j (-1)) _ ⟨by dsimp only; omega, by simpa using hy⟩ (by dsimp only; omega) ?_
      simp [List.map_set, namT]
    · simp at h3
      try simp 
      apply he2
      try simp 
      repeat (refine PreK.intro (by first | omega | (intros; first | omega | (refine ⟨by omega, ?_⟩; simp_all; done) | (simp_all; done) | (simp_all; omega))) fun _ => ?_; (try simp ))
      refine hq (2, [y0, y, y2]) _ ⟨by dsimp only; omega, by simp [ly0, hy, ly2]⟩ (by dsimp only; omega) ?_
      simp [namT, rowT]
  · simp only [namT, rowT]
    try simp 
    repeat (refine PreK.intro (by first | omega | (intros; first | omega | (refine ⟨by omega, ?_⟩; simp_all; done) | (simp_all; done) | (simp_all; omega))) fun _ => ?_; (try simp ))
    refine CondK.tt ?_
    try simp 
    try simp 
    repeat (refine PreK.intro (by first | omega | (intros; first | omega | (refine ⟨by omega, ?_⟩; simp_all; done) | (simp_all; done) | (simp_all; omega))) fun _ => ?_; (try simp ))
    refine LoopK.by (ι := Nat × List Int) (fun y => ⟨[(20, iv y.1), (19, iv 2), (18, bv true), (8, .sl 2003 4 0 3), (7, tabV t), (0, tabV t)], [(2003, some ⟨1, namT 0 [u0, u1, u2], 4, true⟩), (1200, some ⟨1, y0.map iv, 1, false⟩), (1201, some ⟨1, y1.map iv, 1, false⟩), (1202, some ⟨1, y.2.map iv, 1, false⟩)]⟩) (fun y => u2.length - y.1)
      (fun y => y.1 ≤ u2.length ∧ y.2.length = u2.length) (0, y2) ⟨Nat.zero_le _, ly2⟩ (by simp [namT]) ?_
    intro ⟨j, y⟩ Q2 ⟨hj, hy⟩ hq2 he2 hr2
    dsimp only at hj hy
    simp only [namT]
    try simp 
    repeat (refine PreK.intro (by first | omega | (intros; first | omega | (refine ⟨by omega, ?_⟩; simp_all; done) | (simp_all; done) | (simp_all; omega))) fun _ => ?_; (try simp ))
    refine CondK.intro (fun h3 => ?_) (fun h3 => ?_)
    · simp at h3
      have hjy : j < y.length := by omega
      try simp [h3, hjy, hy]
      repeat (refine PreK.intro (by first | omega | (intros; first | omega | (refine ⟨by omega, ?_⟩; simp_all; done) | (simp_all; done) | (simp_all; omega))) fun _ => ?_; (try simp [h3, hjy, hy]))
      refine hq2 (j + 1, y.set j (-1)) _ ⟨by dsimp only; omega, by simpa using hy⟩ (by dsimp only; omega) ?_
      simp [List.map_set, namT]
    · simp at h3
      try simp 
      apply he2
      try simp 
      repeat (refine PreK.intro (by first | omega | (intros; first | omega | (refine ⟨by omega, ?_⟩; simp_all; done) | (simp_all; done) | (simp_all; omega))) fun _ => ?_; (try simp ))
      refine hq (3, [y0, y1, y]) _ ⟨by dsimp only; omega, by simp [ly0, ly1, hy]⟩ (by dsimp only; omega) ?_
      simp [namT, rowT]
  · simp only [namT, rowT]
    try simp 
    repeat (refine PreK.intro (by first | omega | (intros; first | omega | (refine ⟨by omega, ?_⟩; simp_all; done) | (simp_all; done) | (simp_all; omega))) fun _ => ?_; (try simp ))
    refine CondK.ff ?_
    try simp 
    try simp 
    apply he
    try simp 
    repeat' (first
      | (refine CallX.pure (hst) (by simp) (by simp) ?_; try simp )
      | (refine CallK.intro (hst) (by simp) (by simp) ?_; try simp )
      | (refine CallG.intro (fun _ => hst) (by simp) (by simp) ?_; try simp )
      | (refine CallX.pure (known_c) (by simp) (by simp) ?_; try simp )
      | (refine CallK.intro (known_c) (by simp) (by simp) ?_; try simp )
      | (refine CallG.intro (fun _ => known_c) (by simp) (by simp) ?_; try simp )
      | ((with_reducible refine PreK.intro ?_ ?_); (next => (first | omega | (intros; first | omega | (refine ⟨by omega, ?_⟩; repeat (first | assumption | constructor)) | assumption))); intro _; try simp )
      | fail)
theorem splits_at4 (t : List (List Int)) (k c : Nat) (u0 u1 u2 u3 : List Int) (hs : Sm t) (hL : longT t = false) (hb : t.length ≤ big) (hok : TabOK t) (hk : k < t.length) (hl : t.length < 6) (h1 : 1 ≤ c) (h2 : c < (el t k).length) (he : splitM t k c = [u0, u1, u2, u3]) (hS : SplitR t k c = (splitM t k c, 0)) :
    CallP Tryz.prog 3 [tabV t, iv (k : Int), iv (c : Int)] (bv true) := by
  refine CH3 (by simp) ?_
  have hlg := Long_c t hb
  rw [hL] at hlg
  have hnum := hok.num
  have htl : t.length = 3 := by
    have := split_len (t := t) (k := k) (c := c) hk
    rw [he] at this
    simp at this
    omega
  have hm := Split_m t k c hs hok hk hl h1 h2
  have hW := rSplit_c t k c hs
  rw [hS] at hW
  dsimp only at hW
  have hok2 := split_ok hok hk hl h1 h2
  have hjs := join_split (c := c) hk
  have hsub := split_sub hok hk hl h1 h2
  rw [he] at hm hW hok2 hjs hsub
  rw [htl] at hm
  have hAs : Sm [u0, u1, u2, u3] := ⟨by simp, fun r hr => by
    have h6 := hok2.len
    have := (List.sublist_flatten_of_mem hr).length_le
    omega⟩
  simp only [namS, rowS] at hm
  have hsm := sameLists_c [u0, u1, u2, u3] [u0, u1, u2, u3] (by simp only [List.length_cons, List.length_nil, big]; omega) (fun x hx => by have := hAs.row x hx; simp only [big]; omega)
  have hst := sameLists_c t t hb (fun x hx => by have := hs.row x hx; simp only [big]; omega)
  have hJ := Join_c [u0, u1, u2, u3] (k : Int) hAs
  have eJ : JoinR [u0, u1, u2, u3] (k : Int) = (t, 0) := by
    unfold JoinR
    rw [if_neg (by rw [tabErr_zero.2 hok2]; simp), if_pos ⟨by omega, by simp only [List.length_cons, List.length_nil]; omega⟩, Int.toNat_natCast, hjs]
  rw [eJ] at hJ
  dsimp only at hJ
  have c4 := Classes_c t hs
  have e4 : ClassesE t = (classesM t, 0) := by unfold ClassesE; rw [if_neg (by rw [tabErr_zero.2 hok]; simp)]
  rw [e4] at c4
  have c6 := Classes_c [u0, u1, u2, u3] hAs
  have e6 : ClassesE [u0, u1, u2, u3] = (classesM [u0, u1, u2, u3], 0) := by unfold ClassesE; rw [if_neg (by rw [tabErr_zero.2 hok2]; simp)]
  rw [e6] at c6
  dsimp only at c4 c6
  have n1 : (classesM t).length ≤ 36 := by rw [classes_len hok]; exact names_num hok
  have n2 : (classesM [u0, u1, u2, u3]).length ≤ 36 := by rw [classes_len hok2]; exact names_num hok2
  have c7 := inside_c (classesM t) (classesM [u0, u1, u2, u3]) (by omega) (by omega) (fun x hx => by have := (class_up hok hx).2.2; omega)
  have c8 : ((classesM t).all fun x => decide (x ∈ classesM [u0, u1, u2, u3])) = true := by
    rw [List.all_eq_true]
    intro x hx
    simpa using hsub x hx
  rw [c8] at c7
  generalize classesM t = M1 at *
  generalize classesM [u0, u1, u2, u3] = M2 at *
  have hcp := rCopy_c t hs
  have b0 : u0.length ≤ 100 := hAs.row _ (by simp)
  have b1 : u1.length ≤ 100 := hAs.row _ (by simp)
  have b2 : u2.length ≤ 100 := hAs.row _ (by simp)
  have b3 : u3.length ≤ 100 := hAs.row _ (by simp)
  simp [A3]
  try simp 
  repeat' (first
    | (refine CallX.pure (hlg) (by simp) (by simp) ?_; try simp )
    | (refine CallK.intro (hlg) (by simp) (by simp) ?_; try simp )
    | (refine CallG.intro (fun _ => hlg) (by simp) (by simp) ?_; try simp )
    | ((with_reducible refine PreK.intro ?_ ?_); (next => (first | omega | (intros; first | omega | (refine ⟨by omega, ?_⟩; repeat (first | assumption | constructor)) | assumption))); intro _; try simp )
    | fail)
  refine CondK.ff ?_
  try simp 
  try simp 
  repeat' (first
    | (refine CallX.pure (hcp) (by simp) (by simp) ?_; try simp )
    | (refine CallK.intro (hcp) (by simp) (by simp) ?_; try simp )
    | (refine CallG.intro (fun _ => hcp) (by simp) (by simp) ?_; try simp )
    | ((with_reducible refine PreK.intro ?_ ?_); (next => (first | omega | (intros; first | omega | (refine ⟨by omega, ?_⟩; repeat (first | assumption | constructor)) | assumption))); intro _; try simp )
    | fail)
  refine CallX.mem 1000 (by simpa using hm) (by simp) (by simp) (by simp) ?_
  try simp 
  repeat (refine PreK.intro (by first | omega | (intros; first | omega | (refine ⟨by omega, ?_⟩; simp_all; done) | (simp_all; done) | (simp_all; omega))) fun _ => ?_; (try simp ))
  try simp 
  repeat' (first
    | (refine CallX.pure (hW) (by simp) (by simp) ?_; try simp )
    | (refine CallK.intro (hW) (by simp) (by simp) ?_; try simp )
    | (refine CallG.intro (fun _ => hW) (by simp) (by simp) ?_; try simp )
    | ((with_reducible refine PreK.intro ?_ ?_); (next => (first | omega | (intros; first | omega | (refine ⟨by omega, ?_⟩; repeat (first | assumption | constructor)) | assumption))); intro _; try simp )
    | fail)
  refine CallX.deep (by simpa using hsm) (by simp) (by simp) ?_
  try simp 
  repeat (refine PreK.intro (by first | omega | (intros; first | omega | (refine ⟨by omega, ?_⟩; simp_all; done) | (simp_all; done) | (simp_all; omega))) fun _ => ?_; (try simp ))
  refine CondK.ff ?_
  try simp 
  try simp 
  repeat (refine PreK.intro (by first | omega | (intros; first | omega | (refine ⟨by omega, ?_⟩; simp_all; done) | (simp_all; done) | (simp_all; omega))) fun _ => ?_; (try simp ))
  refine CondK.ff ?_
  try simp 
  refine ShiftK.start [8, 1, 0] (by simp) ?_
  try simp 
  repeat (refine PreK.intro (by first | omega | (intros; first | omega | (refine ⟨by omega, ?_⟩; simp_all; done) | (simp_all; done) | (simp_all; omega))) fun _ => ?_; (try simp ))
  try simp 
  repeat' (first
    | (refine CallX.pure (hJ) (by simp) (by simp) ?_; try simp )
    | (refine CallK.intro (hJ) (by simp) (by simp) ?_; try simp )
    | (refine CallG.intro (fun _ => hJ) (by simp) (by simp) ?_; try simp )
    | ((with_reducible refine PreK.intro ?_ ?_); (next => (first | omega | (intros; first | omega | (refine ⟨by omega, ?_⟩; repeat (first | assumption | constructor)) | assumption))); intro _; try simp )
    | fail)
  try simp 
  repeat (refine PreK.intro (by first | omega | (intros; first | omega | (refine ⟨by omega, ?_⟩; simp_all; done) | (simp_all; done) | (simp_all; omega))) fun _ => ?_; (try simp ))
  try simp 
  repeat' (first
    | (refine CallX.pure (c4) (by simp) (by simp) ?_; try simp )
    | (refine CallK.intro (c4) (by simp) (by simp) ?_; try simp )
    | (refine CallG.intro (fun _ => c4) (by simp) (by simp) ?_; try simp )
    | ((with_reducible refine PreK.intro ?_ ?_); (next => (first | omega | (intros; first | omega | (refine ⟨by omega, ?_⟩; repeat (first | assumption | constructor)) | assumption))); intro _; try simp )
    | fail)
  try simp 
  repeat (refine PreK.intro (by first | omega | (intros; first | omega | (refine ⟨by omega, ?_⟩; simp_all; done) | (simp_all; done) | (simp_all; omega))) fun _ => ?_; (try simp ))
  try simp 
  repeat' (first
    | (refine CallX.pure (c6) (by simp) (by simp) ?_; try simp )
    | (refine CallK.intro (c6) (by simp) (by simp) ?_; try simp )
    | (refine CallG.intro (fun _ => c6) (by simp) (by simp) ?_; try simp )
    | ((with_reducible refine PreK.intro ?_ ?_); (next => (first | omega | (intros; first | omega | (refine ⟨by omega, ?_⟩; repeat (first | assumption | constructor)) | assumption))); intro _; try simp )
    | fail)
  try simp 
  repeat (refine PreK.intro (by first | omega | (intros; first | omega | (refine ⟨by omega, ?_⟩; simp_all; done) | (simp_all; done) | (simp_all; omega))) fun _ => ?_; (try simp ))
  try simp 
  repeat' (first
    | (refine CallX.pure (hst) (by simp) (by simp) ?_; try simp )
    | (refine CallK.intro (hst) (by simp) (by simp) ?_; try simp )
    | (refine CallG.intro (fun _ => hst) (by simp) (by simp) ?_; try simp )
    | ((with_reducible refine PreK.intro ?_ ?_); (next => (first | omega | (intros; first | omega | (refine ⟨by omega, ?_⟩; repeat (first | assumption | constructor)) | assumption))); intro _; try simp )
    | fail)
  try simp 
  repeat (refine PreK.intro (by first | omega | (intros; first | omega | (refine ⟨by omega, ?_⟩; simp_all; done) | (simp_all; done) | (simp_all; omega))) fun _ => ?_; (try simp ))
  try simp 
  repeat' (first
    | (refine CallX.pure (c7) (by simp) (by simp) ?_; try simp )
    | (refine CallK.intro (c7) (by simp) (by simp) ?_; try simp )
    | (refine CallG.intro (fun _ => c7) (by simp) (by simp) ?_; try simp )
    | ((with_reducible refine PreK.intro ?_ ?_); (next => (first | omega | (intros; first | omega | (refine ⟨by omega, ?_⟩; repeat (first | assumption | constructor)) | assumption))); intro _; try simp )
    | fail)
  try simp 
  repeat (refine PreK.intro (by first | omega | (intros; first | omega | (refine ⟨by omega, ?_⟩; simp_all; done) | (simp_all; done) | (simp_all; omega))) fun _ => ?_; (try simp ))
  refine ShiftK.stop [18] [0, 7, 8] (by simp) (by simp) ?_
  try simp 
  repeat (refine PreK.intro (by first | omega | (intros; first | omega | (refine ⟨by omega, ?_⟩; simp_all; done) | (simp_all; done) | (simp_all; omega))) fun _ => ?_; (try simp ))
  refine LoopK.by (ι := Nat × List (List Int)) (fun x => ⟨[(19, iv x.1), (18, bv true), (8, .sl 2003 5 0 4), (7, tabV t), (0, tabV t)], (2003, some ⟨1, namT 0 [u0, u1, u2, u3], 5, true⟩) :: rowT 0 x.2⟩) (fun x => 4 - x.1)
    (fun x => x.1 ≤ 4 ∧ x.2.map (·.length) = ([u0, u1, u2, u3] : List (List Int)).map (·.length)) (0, [u0, u1, u2, u3]) ⟨Nat.zero_le _, rfl⟩ (by simp [namT, rowT]) ?_
  intro ⟨i, tos⟩ Q' ⟨hi, hl⟩ hq he hr
  dsimp only at hi hl
  have hln := len_of2 hl
  obtain ⟨y0, y1, y2, y3, rfl⟩ : ∃ y0 y1 y2 y3, tos = [y0, y1, y2, y3] := by
    match tos, hln with
    | [y0, y1, y2, y3], _ => exact ⟨y0, y1, y2, y3, rfl⟩
  simp only [List.map_cons, List.map_nil, List.cons.injEq, and_true] at hl
  obtain ⟨ly0, ly1, ly2, ly3⟩ := hl
  have hi6 : i = 0 ∨ i = 1 ∨ i = 2 ∨ i = 3 ∨ i = 4 := by omega
  rcases hi6 with rfl | rfl | rfl | rfl | rfl
  · simp only [namT, rowT]
    try simp 
    repeat (refine PreK.intro (by first | omega | (intros; first | omega | (refine ⟨by omega, ?_⟩; simp_all; done) | (simp_all; done) | (simp_all; omega))) fun _ => ?_; (try simp ))
    refine CondK.tt ?_
    try simp 
    try simp 
    repeat (refine PreK.intro (by first | omega | (intros; first | omega | (refine ⟨by omega, ?_⟩; simp_all; done) | (simp_all; done) | (simp_all; omega))) fun _ => ?_; (try simp ))
    refine LoopK.by (ι := Nat × List Int) (fun y => ⟨[(20, iv y.1), (19, iv 0), (18, bv true), (8, .sl 2003 5 0 4), (7, tabV t), (0, tabV t)], [(2003, some ⟨1, namT 0 [u0, u1, u2, u3], 5, true⟩), (1200, some ⟨1, y.2.map iv, 1, false⟩), (1201, some ⟨1, y1.map iv, 1, false⟩), (1202, some ⟨1, y2.map iv, 1, false⟩), (1203, some ⟨1, y3.map iv, 1, false⟩)]⟩) (fun y => u0.length - y.1)
      (fun y => y.1 ≤ u0.length ∧ y.2.length = u0.length) (0, y0) ⟨Nat.zero_le _, ly0⟩ (by simp [namT]) ?_
    intro ⟨j, y⟩ Q2 ⟨hj, hy⟩ hq2 he2 hr2
    dsimp only at hj hy
    simp only [namT]
    try simp 
    repeat (refine PreK.intro (by first | omega | (intros; first | omega | (refine ⟨by omega, ?_⟩; simp_all; done) | (simp_all; done) | (simp_all; omega))) fun _ => ?_; (try simp ))
    refine CondK.intro (fun h3 => ?_) (fun h3 => ?_)
    · simp at h3
      have hjy : j < y.length := by omega
      try simp [h3, hjy, hy]
      repeat (refine PreK.intro (by first | omega | (intros; first | omega | (refine ⟨by omega, ?_⟩; simp_all; done) | (simp_all; done) | (simp_all; omega))) fun _ => ?_; (try simp [h3, hjy, hy]))
      refine hq2 (j + 1, y.set j (-1)) _ ⟨by dsimp only; omega, by simpa using hy⟩ (by dsimp only; omega) ?_
      simp [List.map_set, namT]
    · simp at h3
      try simp 
      apply he2
      try simp 
      repeat (refine PreK.intro (by first | omega | (intros; first | omega | (refine ⟨by omega, ?_⟩; simp_all; done) | (simp_all; done) | (simp_all; omega))) fun _ => ?_; (try simp ))
      refine hq (1, [y, y1, y2, y3]) _ ⟨by dsimp only; omega, by simp [hy, ly1, ly2, ly3]⟩ (by dsimp only; omega) ?_
      simp [namT, rowT]
  · simp only [namT, rowT]
    try simp 
    repeat (refine PreK.intro (by first | omega | (intros; first | omega | (refine ⟨by omega, ?_⟩; simp_all; done) | (simp_all; done) | (simp_all; omega))) fun _ => ?_; (try simp ))
    refine CondK.tt ?_
    try simp 
    try simp 
    repeat (refine PreK.intro (by first | omega | (intros; first | omega | (refine ⟨by omega, ?_⟩; simp_all; done) | (simp_all; done) | (simp_all; omega))) fun _ => ?_; (try simp ))
    refine LoopK.by (ι := Nat × List Int) (fun y => ⟨[(20, iv y.1), (19, iv 1), (18, bv true), (8, .sl 2003 5 0 4), (7, tabV t), (0, tabV t)], [(2003, some ⟨1, namT 0 [u0, u1, u2, u3], 5, true⟩), (1200, some ⟨1, y0.map iv, 1, false⟩), (1201, some ⟨1, y.2.map iv, 1, false⟩), (1202, some ⟨1, y2.map iv, 1, false⟩), (1203, some ⟨1, y3.map iv, 1, false⟩)]⟩) (fun y => u1.length - y.1)
      (fun y => y.1 ≤ u1.length ∧ y.2.length = u1.length) (0, y1) ⟨Nat.zero_le _, ly1⟩ (by simp [namT]) ?_
    intro ⟨j, y⟩ Q2 ⟨hj, hy⟩ hq2 he2 hr2
    dsimp only at hj hy
    simp only [namT]
    try simp 
    repeat (refine PreK.intro (by first | omega | (intros; first | omega | (refine ⟨by omega, ?_⟩; simp_all; done) | (simp_all; done) | (simp_all; omega))) fun _ => ?_; (try simp ))
    refine CondK.intro (fun h3 => ?_) (fun h3 => ?_)
    · simp at h3
      have hjy : j < y.length := by omega
      try simp [h3, hjy, hy]
      repeat (refine PreK.intro (by first | omega | (intros; first | omega | (refine ⟨by omega, ?_⟩; simp_all; done) | (simp_all; done) | (simp_all; omega))) fun _ => ?_; (try simp [h3, hjy, hy]))
      refine hq2 (j + 1, y.set j (-1)) _ ⟨by dsimp only; omega, by simpa using hy⟩ (by dsimp only; omega) ?_
      simp [List.map_set, namT]
    · simp at h3
      try simp 
      apply he2
      try simp 
      repeat (refine PreK.intro (by first | omega | (intros; first | omega | (refine ⟨by omega, ?_⟩; simp_all; done) | (simp_all; done) | (simp_all; omega))) fun _ => ?_; (try simp ))
      refine hq (2, [y0, y, y2, y3]) _ ⟨by dsimp only; omega, by simp [ly0, hy, ly2, ly3]⟩ (by dsimp only; omega) ?_
      simp [namT, rowT]
  · simp only [namT, rowT]
    try simp 
    repeat (refine PreK.intro (by first | omega | (intros; first | omega | (refine ⟨by omega, ?_⟩; simp_all; done) | (simp_all; done) | (simp_all; omega))) fun _ => ?_; (try simp ))
    refine CondK.tt ?_
    try simp 
    try simp 
    repeat (refine PreK.intro (by first | omega | (intros; first | omega | (refine ⟨by omega, ?_⟩; simp_all; done) | (simp_all; done) | (simp_all; omega))) fun _ => ?_; (try simp ))
    refine LoopK.by (ι := Nat × List Int) (fun y => ⟨[(20, iv y.1), (19, iv 2), (18, bv true), (8, .sl 2003 5 0 4), (7, tabV t), (0, tabV t)], [(2003, some ⟨1, namT 0 [u0, u1, u2, u3], 5, true⟩), (1200, some ⟨1, y0.map iv, 1, false⟩), (1201, some ⟨1, y1.map iv, 1, false⟩), (1202, some ⟨1, y.2.map iv, 1, false⟩), (1203, some ⟨1, y3.map iv, 1, false⟩)]⟩) (fun y => u2.length - y.1)
      (fun y => y.1 ≤ u2.length ∧ y.2.length = u2.length) (0, y2) ⟨Nat.zero_le _, ly2⟩ (by simp [namT]) ?_
    intro ⟨j, y⟩ Q2 ⟨hj, hy⟩ hq2 he2 hr2
    dsimp only at hj hy
    simp only [namT]
    try simp 
    repeat (refine PreK.intro (by first | omega | (intros; first | omega | (refine ⟨by omega, ?_⟩; simp_all; done) | (simp_all; done) | (simp_all; omega))) fun _ => ?_; (try simp ))
    refine CondK.intro (fun h3 => ?_) (fun h3 => ?_)
    · simp at h3
      have hjy : j < y.length := by omega
      try simp [h3, hjy, hy]
      repeat (refine PreK.intro (by first | omega | (intros; first | omega | (refine ⟨by omega, ?_⟩; simp_all; done) | (simp_all; done) | (simp_all; omega))) fun _ => ?_; (try simp [h3, hjy, hy]))
      refine hq2 (j + 1, y.set j (-1)) _ ⟨by dsimp only; omega, by simpa using hy⟩ (by dsimp only; omega) ?_
      simp [List.map_set, namT]
    · simp at h3
      try simp 
      apply he2
      try simp 
      repeat (refine PreK.intro (by first | omega | (intros; first | omega | (refine ⟨by omega, ?_⟩; simp_all; done) | (simp_all; done) | (simp_all; omega))) fun _ => ?_; (try simp ))
      refine hq (3, [y0, y1, y, y3]) _ ⟨by dsimp only; omega, by simp [ly0, ly1, hy, ly3]⟩ (by dsimp only; omega) ?_
      simp [namT, rowT]
  · simp only [namT, rowT]
    try simp 
    repeat (refine PreK.intro (by first | omega | (intros; first | omega | (refine ⟨by omega, ?_⟩; simp_all; done) | (simp_all; done) | (simp_all; omega))) fun _ => ?_; (try simp ))
    refine CondK.tt ?_
    try simp 
    try simp 
    repeat (refine PreK.intro (by first | omega | (intros; first | omega | (refine ⟨by omega, ?_⟩; simp_all; done) | (simp_all; done) | (simp_all; omega))) fun _ => ?_; (try simp ))
    refine LoopK.by (ι := Nat × List Int) (fun y => ⟨[(20, iv y.1), (19, iv 3), (18, bv true), (8, .sl 2003 5 0 4), (7, tabV t), (0, tabV t)], [(2003, some ⟨1, namT 0 [u0, u1, u2, u3], 5, true⟩), (1200, some ⟨1, y0.map iv, 1, false⟩), (1201, some ⟨1, y1.map iv, 1, false⟩), (1202, some ⟨1, y2.map iv, 1, false⟩), (1203, some ⟨1, y.2.map iv, 1, false⟩)]⟩) (fun y => u3.length - y.1)
      (fun y => y.1 ≤ u3.length ∧ y.2.length = u3.length) (0, y3) ⟨Nat.zero_le _, ly3⟩ (by simp [namT]) ?_
    intro ⟨j, y⟩ Q2 ⟨hj, hy⟩ hq2 he2 hr2
    dsimp only at hj hy
    simp only [namT]
    try simp 
    repeat (refine PreK.intro (by first | omega | (intros; first | omega | (refine ⟨by omega, ?_⟩; simp_all; done) | (simp_all; done) | (simp_all; omega))) fun _ => ?_; (try simp ))
    refine CondK.intro (fun h3 => ?_) (fun h3 => ?_)
    · simp at h3
      have hjy : j < y.length := by omega
      try simp [h3, hjy, hy]
      repeat (refine PreK.intro (by first | omega | (intros; first | omega | (refine ⟨by omega, ?_⟩; simp_all; done) | (simp_all; done) | (simp_all; omega))) fun _ => ?_; (try simp [h3, hjy, hy]))
      refine hq2 (j + 1, y.set j (-1)) _ ⟨by dsimp only; omega, by simpa using hy⟩ (by dsimp only; omega) ?_
      simp [List.map_set, namT]
    · simp at h3
      try simp 
      apply he2
      try simp 
      repeat (refine PreK.intro (by first | omega | (intros; first | omega | (refine ⟨by omega, ?_⟩; simp_all; done) | (simp_all; done) | (simp_all; omega))) fun _ => ?_; (try simp ))
      refine hq (4, [y0, y1, y2, y]) _ ⟨by dsimp only; omega, by simp [ly0, ly1, ly2, hy]⟩ (by dsimp only; omega) ?_
      simp [namT, rowT]
  · simp only [namT, rowT]
    try simp 
    repeat (refine PreK.intro (by first | omega | (intros; first | omega | (refine ⟨by omega, ?_⟩; simp_all; done) | (simp_all; done) | (simp_all; omega))) fun _ => ?_; (try simp ))
    refine CondK.ff ?_
    try simp 
    try simp 
    apply he
    try simp 
    repeat' (first
      | (refine CallX.pure (hst) (by simp) (by simp) ?_; try simp )
      | (refine CallK.intro (hst) (by simp) (by simp) ?_; try simp )
      | (refine CallG.intro (fun _ => hst) (by simp) (by simp) ?_; try simp )
      | (refine CallX.pure (known_c) (by simp) (by simp) ?_; try simp )
      | (refine CallK.intro (known_c) (by simp) (by simp) ?_; try simp )
      | (refine CallG.intro (fun _ => known_c) (by simp) (by simp) ?_; try simp )
      | ((with_reducible refine PreK.intro ?_ ?_); (next => (first | omega | (intros; first | omega | (refine ⟨by omega, ?_⟩; repeat (first | assumption | constructor)) | assumption))); intro _; try simp )
      | fail)
theorem splits_at5 (t : List (List Int)) (k c : Nat) (u0 u1 u2 u3 u4 : List Int) (hs : Sm t) (hL : longT t = false) (hb : t.length ≤ big) (hok : TabOK t) (hk : k < t.length) (hl : t.length < 6) (h1 : 1 ≤ c) (h2 : c < (el t k).length) (he : splitM t k c = [u0, u1, u2, u3, u4]) (hS : SplitR t k c = (splitM t k c, 0)) :
    CallP Tryz.prog 3 [tabV t, iv (k : Int), iv (c : Int)] (bv true) := by
  refine CH3 (by simp) ?_
  have hlg := Long_c t hb
  rw [hL] at hlg
  have hnum := hok.num
  have htl : t.length = 4 := by
    have := split_len (t := t) (k := k) (c := c) hk
    rw [he] at this
    simp at this
    omega
  have hm := Split_m t k c hs hok hk hl h1 h2
  have hW := rSplit_c t k c hs
  rw [hS] at hW
  dsimp only at hW
  have hok2 := split_ok hok hk hl h1 h2
  have hjs := join_split (c := c) hk
  have hsub := split_sub hok hk hl h1 h2
  rw [he] at hm hW hok2 hjs hsub
  rw [htl] at hm
  have hAs : Sm [u0, u1, u2, u3, u4] := ⟨by simp, fun r hr => by
    have h6 := hok2.len
    have := (List.sublist_flatten_of_mem hr).length_le
    omega⟩
  simp only [namS, rowS] at hm
  have hsm := sameLists_c [u0, u1, u2, u3, u4] [u0, u1, u2, u3, u4] (by simp only [List.length_cons, List.length_nil, big]; omega) (fun x hx => by have := hAs.row x hx; simp only [big]; omega)
  have hst := sameLists_c t t hb (fun x hx => by have := hs.row x hx; simp only [big]; omega)
  have hJ := Join_c [u0, u1, u2, u3, u4] (k : Int) hAs
  have eJ : JoinR [u0, u1, u2, u3, u4] (k : Int) = (t, 0) := by
    unfold JoinR
    rw [if_neg (by rw [tabErr_zero.2 hok2]; simp), if_pos ⟨by omega, by simp only [List.length_cons, List.length_nil]; omega⟩, Int.toNat_natCast, hjs]
  rw [eJ] at hJ
  dsimp only at hJ
  have c4 := Classes_c t hs
  have e4 : ClassesE t = (classesM t, 0) := by unfold ClassesE; rw [if_neg (by rw [tabErr_zero.2 hok]; simp)]
  rw [e4] at c4
  have c6 := Classes_c [u0, u1, u2, u3, u4] hAs
  have e6 : ClassesE [u0, u1, u2, u3, u4] = (classesM [u0, u1, u2, u3, u4], 0) := by unfold ClassesE; rw [if_neg (by rw [tabErr_zero.2 hok2]; simp)]
  rw [e6] at c6
  dsimp only at c4 c6
  have n1 : (classesM t).length ≤ 36 := by rw [classes_len hok]; exact names_num hok
  have n2 : (classesM [u0, u1, u2, u3, u4]).length ≤ 36 := by rw [classes_len hok2]; exact names_num hok2
  have c7 := inside_c (classesM t) (classesM [u0, u1, u2, u3, u4]) (by omega) (by omega) (fun x hx => by have := (class_up hok hx).2.2; omega)
  have c8 : ((classesM t).all fun x => decide (x ∈ classesM [u0, u1, u2, u3, u4])) = true := by
    rw [List.all_eq_true]
    intro x hx
    simpa using hsub x hx
  rw [c8] at c7
  generalize classesM t = M1 at *
  generalize classesM [u0, u1, u2, u3, u4] = M2 at *
  have hcp := rCopy_c t hs
  have b0 : u0.length ≤ 100 := hAs.row _ (by simp)
  have b1 : u1.length ≤ 100 := hAs.row _ (by simp)
  have b2 : u2.length ≤ 100 := hAs.row _ (by simp)
  have b3 : u3.length ≤ 100 := hAs.row _ (by simp)
  have b4 : u4.length ≤ 100 := hAs.row _ (by simp)
  simp [A3]
  try simp 
  repeat' (first
    | (refine CallX.pure (hlg) (by simp) (by simp) ?_; try simp )
    | (refine CallK.intro (hlg) (by simp) (by simp) ?_; try simp )
    | (refine CallG.intro (fun _ => hlg) (by simp) (by simp) ?_; try simp )
    | ((with_reducible refine PreK.intro ?_ ?_); (next => (first | omega | (intros; first | omega | (refine ⟨by omega, ?_⟩; repeat (first | assumption | constructor)) | assumption))); intro _; try simp )
    | fail)
  refine CondK.ff ?_
  try simp 
  try simp 
  repeat' (first
    | (refine CallX.pure (hcp) (by simp) (by simp) ?_; try simp )
    | (refine CallK.intro (hcp) (by simp) (by simp) ?_; try simp )
    | (refine CallG.intro (fun _ => hcp) (by simp) (by simp) ?_; try simp )
    | ((with_reducible refine PreK.intro ?_ ?_); (next => (first | omega | (intros; first | omega | (refine ⟨by omega, ?_⟩; repeat (first | assumption | constructor)) | assumption))); intro _; try simp )
    | fail)
  refine CallX.mem 1000 (by simpa using hm) (by simp) (by simp) (by simp) ?_
  try simp 
  repeat (refine PreK.intro (by first | omega | (intros; first | omega | (refine ⟨by omega, ?_⟩; simp_all; done) | (simp_all; done) | (simp_all; omega))) fun _ => ?_; (try simp ))
  try simp 
  repeat' (first
    | (refine CallX.pure (hW) (by simp) (by simp) ?_; try simp )
    | (refine CallK.intro (hW) (by simp) (by simp) ?_; try simp )
    | (refine CallG.intro (fun _ => hW) (by simp) (by simp) ?_; try simp )
    | ((with_reducible refine PreK.intro ?_ ?_); (next => (first | omega | (intros; first | omega | (refine ⟨by omega, ?_⟩; repeat (first | assumption | constructor)) | assumption))); intro _; try simp )
    | fail)
  refine CallX.deep (by simpa using hsm) (by simp) (by simp) ?_
  try simp 
  repeat (refine PreK.intro (by first | omega | (intros; first | omega | (refine ⟨by omega, ?_⟩; simp_all; done) | (simp_all; done) | (simp_all; omega))) fun _ => ?_; (try simp ))
  refine CondK.ff ?_
  try simp 
  try simp 
  repeat (refine PreK.intro (by first | omega | (intros; first | omega | (refine ⟨by omega, ?_⟩; simp_all; done) | (simp_all; done) | (simp_all; omega))) fun _ => ?_; (try simp ))
  refine CondK.ff ?_
  try simp 
  refine ShiftK.start [8, 1, 0] (by simp) ?_
  try simp 
  repeat (refine PreK.intro (by first | omega | (intros; first | omega | (refine ⟨by omega, ?_⟩; simp_all; done) | (simp_all; done) | (simp_all; omega))) fun _ => ?_; (try simp ))
  try simp 
  repeat' (first
    | (refine CallX.pure (hJ) (by simp) (by simp) ?_; try simp )
    | (refine CallK.intro (hJ) (by simp) (by simp) ?_; try simp )
    | (refine CallG.intro (fun _ => hJ) (by simp) (by simp) ?_; try simp )
    | ((with_reducible refine PreK.intro ?_ ?_); (next => (first | omega | (intros; first | omega | (refine ⟨by omega, ?_⟩; repeat (first | assumption | constructor)) | assumption))); intro _; try simp )
    | fail)
  try simp 
  repeat (refine PreK.intro (by first | omega | (intros; first | omega | (refine ⟨by omega, ?_⟩; simp_all; done) | (simp_all; done) | (simp_all; omega))) fun _ => ?_; (try simp ))
  try simp 
  repeat' (first
    | (refine CallX.pure (c4) (by simp) (by simp) ?_; try simp )
    | (refine CallK.intro (c4) (by simp) (by simp) ?_; try simp )
    | (refine CallG.intro (fun _ => c4) (by simp) (by simp) ?_; try simp )
    | ((with_reducible refine PreK.intro ?_ ?_); (next => (first | omega | (intros; first | omega | (refine ⟨by omega, ?_⟩; repeat (first | assumption | constructor)) | assumption))); intro _; try simp )
    | fail)
  try simp 
  repeat (refine PreK.intro (by first | omega | (intros; first | omega | (refine ⟨by omega, ?_⟩; simp_all; done) | (simp_all; done) | (simp_all; omega))) fun _ => ?_; (try simp ))
  try simp 
  repeat' (first
    | (refine CallX.pure (c6) (by simp) (by simp) ?_; try simp )
    | (refine CallK.intro (c6) (by simp) (by simp) ?_; try simp )
    | (refine CallG.intro (fun _ => c6) (by simp) (by simp) ?_; try simp )
    | ((with_reducible refine PreK.intro ?_ ?_); (next => (first | omega | (intros; first | omega | (refine ⟨by omega, ?_⟩; repeat (first | assumption | constructor)) | assumption))); intro _; try simp )
    | fail)
  try simp 
  repeat (refine PreK.intro (by first | omega | (intros; first | omega | (refine ⟨by omega, ?_⟩; simp_all; done) | (simp_all; done) | (simp_all; omega))) fun _ => ?_; (try simp ))
  try simp 
  repeat' (first
    | (refine CallX.pure (hst) (by simp) (by simp) ?_; try simp )
    | (refine CallK.intro (hst) (by simp) (by simp) ?_; try simp )
    | (refine CallG.intro (fun _ => hst) (by simp) (by simp) ?_; try simp )
    | ((with_reducible refine PreK.intro ?_ ?_); (next => (first | omega | (intros; first | omega | (refine ⟨by omega, ?_⟩; repeat (first | assumption | constructor)) | assumption))); intro _; try simp )
    | fail)
  try simp 
  repeat (refine PreK.intro (by first | omega | (intros; first | omega | (refine ⟨by omega, ?_⟩; simp_all; done) | (simp_all; done) | (simp_all; omega))) fun _ => ?_; (try simp ))
  try simp 
  repeat' (first
    | (refine CallX.pure (c7) (by simp) (by simp) ?_; try simp )
    | (refine CallK.intro (c7) (by simp) (by simp) ?_; try simp )
    | (refine CallG.intro (fun _ => c7) (by simp) (by simp) ?_; try simp )
    | ((with_reducible refine PreK.intro ?_ ?_); (next => (first | omega | (intros; first | omega | (refine ⟨by omega, ?_⟩; repeat (first | assumption | constructor)) | assumption))); intro _; try simp )
    | fail)
  try simp 
  repeat (refine PreK.intro (by first | omega | (intros; first | omega | (refine ⟨by omega, ?_⟩; simp_all; done) | (simp_all; done) | (simp_all; omega))) fun _ => ?_; (try simp ))
  refine ShiftK.stop [18] [0, 7, 8] (by simp) (by simp) ?_
  try simp 
  repeat (refine PreK.intro (by first | omega | (intros; first | omega | (refine ⟨by omega, ?_⟩; simp_all; done) | (simp_all; done) | (simp_all; omega))) fun _ => ?_; (try simp ))
  refine LoopK.by (ι := Nat × List (List Int)) (fun x => ⟨[(19, iv x.1), (18, bv true), (8, .sl 2003 6 0 5), (7, tabV t), (0, tabV t)], (2003, some ⟨1, namT 0 [u0, u1, u2, u3, u4], 6, true⟩) :: rowT 0 x.2⟩) (fun x => 5 - x.1)
    (fun x => x.1 ≤ 5 ∧ x.2.map (·.length) = ([u0, u1, u2, u3, u4] : List (List Int)).map (·.length)) (0, [u0, u1, u2, u3, u4]) ⟨Nat.zero_le _, rfl⟩ (by simp [namT, rowT]) ?_
  intro ⟨i, tos⟩ Q' ⟨hi, hl⟩ hq he hr
  dsimp only at hi hl
  have hln := len_of2 hl
  obtain ⟨y0, y1, y2, y3, y4, rfl⟩ : ∃ y0 y1 y2 y3 y4, tos = [y0, y1, y2, y3, y4] := by
    match tos, hln with
    | [y0, y1, y2, y3, y4], _ => exact ⟨y0, y1, y2, y3, y4, rfl⟩
  simp only [List.map_cons, List.map_nil, List.cons.injEq, and_true] at hl
  obtain ⟨ly0, ly1, ly2, ly3, ly4⟩ := hl
  have hi6 : i = 0 ∨ i = 1 ∨ i = 2 ∨ i = 3 ∨ i = 4 ∨ i = 5 := by omega
  rcases hi6 with rfl | rfl | rfl | rfl | rfl | rfl
  · simp only [namT, rowT]
    try simp 
    repeat (refine PreK.intro (by first | omega | (intros; first | omega | (refine ⟨by omega, ?_⟩; simp_all; done) | (simp_all; done) | (simp_all; omega))) fun _ => ?_; (try simp ))
    refine CondK.tt ?_
    try simp 
    try simp 
    repeat (refine PreK.intro (by first | omega | (intros; first | omega | (refine ⟨by omega, ?_⟩; simp_all; done) | (simp_all; done) | (simp_all; omega))) fun _ => ?_; (try simp ))
    refine LoopK.by (ι := Nat × List Int) (fun y => ⟨[(20, iv y.1), (19, iv 0), (18, bv true), (8, .sl 2003 6 0 5), (7, tabV t), (0, tabV t)], [(2003, some ⟨1, namT 0 [u0, u1, u2, u3, u4], 6, true⟩), (1200, some ⟨1, y.2.map iv, 1, false⟩), (1201, some ⟨1, y1.map iv, 1, false⟩), (1202, some ⟨1, y2.map iv, 1, false⟩), (1203, some ⟨1, y3.map iv, 1, false⟩), (1204, some ⟨1, y4.map iv, 1, false⟩)]⟩) (fun y => u0.length - y.1)
      (fun y => y.1 ≤ u0.length ∧ y.2.length = u0.length) (0, y0) ⟨Nat.zero_le _, ly0⟩ (by simp [namT]) ?_
    intro ⟨j, y⟩ Q2 ⟨hj, hy⟩ hq2 he2 hr2
    dsimp only at hj hy
    simp only [namT]
    try simp 
    repeat (refine PreK.intro (by first | omega | (intros; first | omega | (refine ⟨by omega, ?_⟩; simp_all; done) | (simp_all; done) | (simp_all; omega))) fun _ => ?_; (try simp ))
    refine CondK.intro (fun h3 => ?_) (fun h3 => ?_)
    · simp at h3
      have hjy : j < y.length := by omega
      try simp [h3, hjy, hy]
      repeat (refine PreK.intro (by first | omega | (intros; first | omega | (refine ⟨by omega, ?_⟩; simp_all; done) | (simp_all; done) | (simp_all; omega))) fun _ => ?_; (try simp [h3, hjy, hy]))
      refine hq2 (j + 1, y.set j (-1)) _ ⟨by dsimp only; omega, by simpa using hy⟩ (by dsimp only; omega) ?_
      simp [List.map_set, namT]
    · simp at h3
      try simp 
      apply he2
      try simp 
      repeat (refine PreK.intro (by first | omega | (intros; first | omega | (refine ⟨by omega, ?_⟩; simp_all; done) | (simp_all; done) | (simp_all; omega))) fun _ => ?_; (try simp ))
      refine hq (1, [y, y1, y2, y3, y4]) _ ⟨by dsimp only; omega, by simp [hy, ly1, ly2, ly3, ly4]⟩ (by dsimp only; omega) ?_
      simp [namT, rowT]
  · simp only [namT, rowT]
    try simp 
    repeat (refine PreK.intro (by first | omega | (intros; first | omega | (refine ⟨by omega, ?_⟩; simp_all; done) | (simp_all; done) | (simp_all; omega))) fun _ => ?_; (try simp ))
    refine CondK.tt ?_
    try simp 
    try simp 
    repeat (refine PreK.intro (by first | omega | (intros; first | omega | (refine ⟨by omega, ?_⟩; simp_all; done) | (simp_all; done) | (simp_all; omega))) fun _ => ?_; (try simp ))
    refine LoopK.by (ι := Nat × List Int) (fun y => ⟨[(20, iv y.1), (19, iv 1), (18, bv true), (8, .sl 2003 6 0 5), (7, tabV t), (0, tabV t)], [(2003, some ⟨1, namT 0 [u0, u1, u2, u3, u4], 6, true⟩), (1200, some ⟨1, y0.map iv, 1, false⟩), (1201, some ⟨1, y.2.map iv, 1, false⟩), (1202, some ⟨1, y2.map iv, 1, false⟩), (1203, some ⟨1, y3.map iv, 1, false⟩), (1204, some ⟨1, y4.map iv, 1, false⟩)]⟩) (fun y => u1.length - y.1)
      (fun y => y.1 ≤ u1.length ∧ y.2.length = u1.length) (0, y1) ⟨Nat.zero_le _, ly1⟩ (by simp [namT]) ?_
    intro ⟨j, y⟩ Q2 ⟨hj, hy⟩ hq2 he2 hr2
    dsimp only at hj hy
    simp only [namT]
    try simp 
    repeat (refine PreK.intro (by first | omega | (intros; first | omega | (refine ⟨by omega, ?_⟩; simp_all; done) | (simp_all; done) | (simp_all; omega))) fun _ => ?_; (try simp ))
    refine CondK.intro (fun h3 => ?_) (fun h3 => ?_)
    · simp at h3
      have hjy : j < y.length := by omega
      try simp [h3, hjy, hy]
      repeat (refine PreK.intro (by first | omega | (intros; first | omega | (refine ⟨by omega, ?_⟩; simp_all; done) | (simp_all; done) | (simp_all; omega))) fun _ => ?_; (try simp [h3, hjy, hy]))
      refine hq2 (j + 1, y.set j (-1)) _ ⟨by dsimp only; omega, by simpa using hy⟩ (by dsimp only; omega) ?_
      simp [List.map_set, namT]
    · simp at h3
      try simp 
      apply he2
      try simp 
      repeat (refine PreK.intro (by first | omega | (intros; first | omega | (refine ⟨by omega, ?_⟩; simp_all; done) | (simp_all; done) | (simp_all; omega))) fun _ => ?_; (try simp ))
      refine hq (2, [y0, y, y2, y3, y4]) _ ⟨by dsimp only; omega, by simp [ly0, hy, ly2, ly3, ly4]⟩ (by dsimp only; omega) ?_
      simp [namT, rowT]
  · simp only [namT, rowT]
    try simp 
    repeat (refine PreK.intro (by first | omega | (intros; first | omega | (refine ⟨by omega, ?_⟩; simp_all; done) | (simp_all; done) | (simp_all; omega))) fun _ => ?_; (try simp ))
    refine CondK.tt ?_
    try simp 
    try simp 
    repeat (refine PreK.intro (by first | omega | (intros; first | omega | (refine ⟨by omega, ?_⟩; simp_all; done) | (simp_all; done) | (simp_all; omega))) fun _ => ?_; (try simp ))
    refine LoopK.by (ι := Nat × List Int) (fun y => ⟨[(20, iv y.1), (19, iv 2), (18, bv true), (8, .sl 2003 6 0 5), (7, tabV t), (0, tabV t)], [(2003, some ⟨1, namT 0 [u0, u1, u2, u3, u4], 6, true⟩), (1200, some ⟨1, y0.map iv, 1, false⟩), (1201, some ⟨1, y1.map iv, 1, false⟩), (1202, some ⟨1, y.2.map iv, 1, false⟩), (1203, some ⟨1, y3.map iv, 1, false⟩), (1204, some ⟨1, y4.map iv, 1, false⟩)]⟩) (fun y => u2.length - y.1)
      (fun y => y.1 ≤ u2.length ∧ y.2.length = u2.length) (0, y2) ⟨Nat.zero_le _, ly2⟩ (by simp [namT]) ?_
    intro ⟨j, y⟩ Q2 ⟨hj, hy⟩ hq2 he2 hr2
    dsimp only at hj hy
    simp only [namT]
    try simp 
    repeat (refine PreK.intro (by first | omega | (intros; first | omega | (refine ⟨by omega, ?_⟩; simp_all; done) | (simp_all; done) | (simp_all; omega))) fun _ => ?_; (try simp ))
    refine CondK.intro (fun h3 => ?_) (fun h3 => ?_)
    · simp at h3
      have hjy : j < y.length := by omega
      try simp [h3, hjy, hy]
      repeat (refine PreK.intro (by first | omega | (intros; first | omega | (refine ⟨by omega, ?_⟩; simp_all; done) | (simp_all; done) | (simp_all; omega))) fun _ => ?_; (try simp [h3, hjy, hy]))
      refine hq2 (j + 1, y.set j (-1)) _ ⟨by dsimp only; omega, by simpa using hy⟩ (by dsimp only; omega) ?_
      simp [List.map_set, namT]
    · simp at h3
      try simp 
      apply he2
      try simp 
      repeat (refine PreK.intro (by first | omega | (intros; first | omega | (refine ⟨by omega, ?_⟩; simp_all; done) | (simp_all; done) | (simp_all; omega))) fun _ => ?_; (try simp ))
      refine hq (3, [y0, y1, y, y3, y4]) _ ⟨by dsimp only; omega, by simp [ly0, ly1, hy, ly3, ly4]⟩ (by dsimp only; omega) ?_
      simp [namT, rowT]
  · simp only [namT, rowT]
    try simp 
    repeat (refine PreK.intro (by first | omega | (intros; first | omega | (refine ⟨by omega, ?_⟩; simp_all; done) | (simp_all; done) | (simp_all; omega))) fun _ => ?_; (try simp ))
    refine CondK.tt ?_
    try simp 
    try simp 
    repeat (refine PreK.intro (by first | omega | (intros; first | omega | (refine ⟨by omega, ?_⟩; simp_all; done) | (simp_all; done) | (simp_all; omega))) fun _ => ?_; (try simp ))
    refine LoopK.by (ι := Nat × List Int) (fun y => ⟨[(20, iv y.1), (19, iv 3), (18, bv true), (8, .sl 2003 6 0 5), (7, tabV t), (0, tabV t)], [(2003, some ⟨1, namT 0 [u0, u1, u2, u3, u4], 6, true⟩), (1200, some ⟨1, y0.map iv, 1, false⟩), (1201, some ⟨1, y1.map iv, 1, false⟩), (1202, some ⟨1, y2.map iv, 1, false⟩), (1203, some ⟨1, y.2.map iv, 1, false⟩), (1204, some ⟨1, y4.map iv, 1, false⟩)]⟩) (fun y => u3.length - y.1)
      (fun y => y.1 ≤ u3.length ∧ y.2.length = u3.length) (0, y3) ⟨Nat.zero_le _, ly3⟩ (by simp [namT]) ?_
    intro ⟨j, y⟩ Q2 ⟨hj, hy⟩ hq2 he2 hr2
    dsimp only at hj hy
    simp only [namT]
    try simp 
    repeat (refine PreK.intro (by first | omega | (intros; first | omega | (refine ⟨by omega, ?_⟩; simp_all; done) | (simp_all; done) | (simp_all; omega))) fun _ => ?_; (try simp ))
    refine CondK.intro (fun h3 => ?_) (fun h3 => ?_)
    · simp at h3
      have hjy : j < y.length := by omega
      try simp [h3, hjy, hy]
      repeat (refine PreK.intro (by first | omega | (intros; first | omega | (refine ⟨by omega, ?_⟩; simp_all; done) | (simp_all; done) | (simp_all; omega))) fun _ => ?_; (try simp [h3, hjy, hy]))
      refine hq2 (j + 1, y.set j (-1)) _ ⟨by dsimp only; omega, by simpa using hy⟩ (by dsimp only; omega) ?_
      simp [List.map_set, namT]
    · simp at h3
      try simp 
      apply he2
      try simp 
      repeat (refine PreK.intro (by first | omega | (intros; first | omega | (refine ⟨by omega, ?_⟩; simp_all; done) | (simp_all; done) | (simp_all; omega))) fun _ => ?_; (try simp ))
      refine hq (4, [y0, y1, y2, y, y4]) _ ⟨by dsimp only; omega, by simp [ly0, ly1, ly2, hy, ly4]⟩ (by dsimp only; omega) ?_
      simp [namT, rowT]
  · simp only [namT, rowT]
    try simp 
    repeat (refine PreK.intro (by first | omega | (intros; first | omega | (refine ⟨by omega, ?_⟩; simp_all; done) | (simp_all; done) | (simp_all; omega))) fun _ => ?_; (try simp ))
    refine CondK.tt ?_
    try simp 
    try simp 
    repeat (refine PreK.intro (by first | omega | (intros; first | omega | (refine ⟨by omega, ?_⟩; simp_all; done) | (simp_all; done) | (simp_all; omega))) fun _ => ?_; (try simp ))
    refine LoopK.by (ι := Nat × List Int) (fun y => ⟨[(20, iv y.1), (19, iv 4), (18, bv true), (8, .sl 2003 6 0 5), (7, tabV t), (0, tabV t)], [(2003, some ⟨1, namT 0 [u0, u1, u2, u3, u4], 6, true⟩), (1200, some ⟨1, y0.map iv, 1, false⟩), (1201, some ⟨1, y1.map iv, 1, false⟩), (1202, some ⟨1, y2.map iv, 1, false⟩), (1203, some ⟨1, y3.map iv, 1, false⟩), (1204, some ⟨1, y.2.map iv, 1, false⟩)]⟩) (fun y => u4.length - y.1)
      (fun y => y.1 ≤ u4.length ∧ y.2.length = u4.length) (0, y4) ⟨Nat.zero_le _, ly4⟩ (by simp [namT]) ?_
    intro ⟨j, y⟩ Q2 ⟨hj, hy⟩ hq2 he2 hr2
    dsimp only at hj hy
    simp only [namT]
    try simp 
    repeat (refine PreK.intro (by first | omega | (intros; first | omega | (refine ⟨by omega, ?_⟩; simp_all; done) | (simp_all; done) | (simp_all; omega))) fun _ => ?_; (try simp ))
    refine CondK.intro (fun h3 => ?_) (fun h3 => ?_)
    · simp at h3
      have hjy : j < y.length := by omega
      try simp [h3, hjy, hy]
      repeat (refine PreK.intro (by first | omega | (intros; first | omega | (refine ⟨by omega, ?_⟩; simp_all; done) | (simp_all; done) | (simp_all; omega))) fun _ => ?_; (try simp [h3, hjy, hy]))
      refine hq2 (j + 1, y.set j (-1)) _ ⟨by dsimp only; omega, by simpa using hy⟩ (by dsimp only; omega) ?_
      simp [List.map_set, namT]
    · simp at h3
      try simp 
      apply he2
      try simp 
      repeat (refine PreK.intro (by first | omega | (intros; first | omega | (refine ⟨by omega, ?_⟩; simp_all; done) | (simp_all; done) | (simp_all; omega))) fun _ => ?_; (try simp ))
      refine hq (5, [y0, y1, y2, y3, y]) _ ⟨by dsimp only; omega, by simp [ly0, ly1, ly2, ly3, hy]⟩ (by dsimp only; omega) ?_
      simp [namT, rowT]
  · simp only [namT, rowT]
    try simp 
    repeat (refine PreK.intro (by first | omega | (intros; first | omega | (refine ⟨by omega, ?_⟩; simp_all; done) | (simp_all; done) | (simp_all; omega))) fun _ => ?_; (try simp ))
    refine CondK.ff ?_
    try simp 
    try simp 
    apply he
    try simp 
    repeat' (first
      | (refine CallX.pure (hst) (by simp) (by simp) ?_; try simp )
      | (refine CallK.intro (hst) (by simp) (by simp) ?_; try simp )
      | (refine CallG.intro (fun _ => hst) (by simp) (by simp) ?_; try simp )
      | (refine CallX.pure (known_c) (by simp) (by simp) ?_; try simp )
      | (refine CallK.intro (known_c) (by simp) (by simp) ?_; try simp )
      | (refine CallG.intro (fun _ => known_c) (by simp) (by simp) ?_; try simp )
      | ((with_reducible refine PreK.intro ?_ ?_); (next => (first | omega | (intros; first | omega | (refine ⟨by omega, ?_⟩; repeat (first | assumption | constructor)) | assumption))); intro _; try simp )
      | fail)
theorem splits_at6 (t : List (List Int)) (k c : Nat) (u0 u1 u2 u3 u4 u5 : List Int) (hs : Sm t) (hL : longT t = false) (hb : t.length ≤ big) (hok : TabOK t) (hk : k < t.length) (hl : t.length < 6) (h1 : 1 ≤ c) (h2 : c < (el t k).length) (he : splitM t k c = [u0, u1, u2, u3, u4, u5]) (hS : SplitR t k c = (splitM t k c, 0)) :
    CallP Tryz.prog 3 [tabV t, iv (k : Int), iv (c : Int)] (bv true) := by
  refine CH3 (by simp) ?_
  have hlg := Long_c t hb
  rw [hL] at hlg
  have hnum := hok.num
  have htl : t.length = 5 := by
    have := split_len (t := t) (k := k) (c := c) hk
    rw [he] at this
    simp at this
    omega
  have hm := Split_m t k c hs hok hk hl h1 h2
  have hW := rSplit_c t k c hs
  rw [hS] at hW
  dsimp only at hW
  have hok2 := split_ok hok hk hl h1 h2
  have hjs := join_split (c := c) hk
  have hsub := split_sub hok hk hl h1 h2
  rw [he] at hm hW hok2 hjs hsub
  rw [htl] at hm
  have hAs : Sm [u0, u1, u2, u3, u4, u5] := ⟨by simp, fun r hr => by
    have h6 := hok2.len
    have := (List.sublist_flatten_of_mem hr).length_le
    omega⟩
  simp only [namS, rowS] at hm
  have hsm := sameLists_c [u0, u1, u2, u3, u4, u5] [u0, u1, u2, u3, u4, u5] (by simp only [List.length_cons, List.length_nil, big]; omega) (fun x hx => by have := hAs.row x hx; simp only [big]; omega)
  have hst := sameLists_c t t hb (fun x hx => by have := hs.row x hx; simp only [big]; omega)
  have hJ := Join_c [u0, u1, u2, u3, u4, u5] (k : Int) hAs
  have eJ : JoinR [u0, u1, u2, u3, u4, u5] (k : Int) = (t, 0) := by
    unfold JoinR
    rw [if_neg (by rw [tabErr_zero.2 hok2]; simp), if_pos ⟨by omega, by simp only [List.length_cons, List.length_nil]; omega⟩, Int.toNat_natCast, hjs]
  rw [eJ] at hJ
  dsimp only at hJ
  have c4 := Classes_c t hs
  have e4 : ClassesE t = (classesM t, 0) := by unfold ClassesE; rw [if_neg (by rw [tabErr_zero.2 hok]; simp)]
  rw [e4] at c4
  have c6 := Classes_c [u0, u1, u2, u3, u4, u5] hAs
  have e6 : ClassesE [u0, u1, u2, u3, u4, u5] = (classesM [u0, u1, u2, u3, u4, u5], 0) := by unfold ClassesE; rw [if_neg (by rw [tabErr_zero.2 hok2]; simp)]
  rw [e6] at c6
  dsimp only at c4 c6
  have n1 : (classesM t).length ≤ 36 := by rw [classes_len hok]; exact names_num hok
  have n2 : (classesM [u0, u1, u2, u3, u4, u5]).length ≤ 36 := by rw [classes_len hok2]; exact names_num hok2
  have c7 := inside_c (classesM t) (classesM [u0, u1, u2, u3, u4, u5]) (by omega) (by omega) (fun x hx => by have := (class_up hok hx).2.2; omega)
  have c8 : ((classesM t).all fun x => decide (x ∈ classesM [u0, u1, u2, u3, u4, u5])) = true := by
    rw [List.all_eq_true]
    intro x hx
    simpa using hsub x hx
  rw [c8] at c7
  generalize classesM t = M1 at *
  generalize classesM [u0, u1, u2, u3, u4, u5] = M2 at *
  have hcp := rCopy_c t hs
  have b0 : u0.length ≤ 100 := hAs.row _ (by simp)
  have b1 : u1.length ≤ 100 := hAs.row _ (by simp)
  have b2 : u2.length ≤ 100 := hAs.row _ (by simp)
  have b3 : u3.length ≤ 100 := hAs.row _ (by simp)
  have b4 : u4.length ≤ 100 := hAs.row _ (by simp)
  have b5 : u5.length ≤ 100 := hAs.row _ (by simp)
  simp [A3]
  try simp 
  repeat' (first
    | (refine CallX.pure (hlg) (by simp) (by simp) ?_; try simp )
    | (refine CallK.intro (hlg) (by simp) (by simp) ?_; try simp )
    | (refine CallG.intro (fun _ => hlg) (by simp) (by simp) ?_; try simp )
    | ((with_reducible refine PreK.intro ?_ ?_); (next => (first | omega | (intros; first | omega | (refine ⟨by omega, ?_⟩; repeat (first | assumption | constructor)) | assumption))); intro _; try simp )
    | fail)
  refine CondK.ff ?_
  try simp 
  try simp 
  repeat' (first
    | (refine CallX.pure (hcp) (by simp) (by simp) ?_; try simp )
    | (refine CallK.intro (hcp) (by simp) (by simp) ?_; try simp )
    | (refine CallG.intro (fun _ => hcp) (by simp) (by simp) ?_; try simp )
    | ((with_reducible refine PreK.intro ?_ ?_); (next => (first | omega | (intros; first | omega | (refine ⟨by omega, ?_⟩; repeat (first | assumption | constructor)) | assumption))); intro _; try simp )
    | fail)
  refine CallX.mem 1000 (by simpa using hm) (by simp) (by simp) (by simp) ?_
  try simp 
  repeat (refine PreK.intro (by first | omega | (intros; first | omega | (refine ⟨by omega, ?_⟩; simp_all; done) | (simp_all; done) | (simp_all; omega))) fun _ => ?_; (try simp ))
  try simp 
  repeat' (first
    | (refine CallX.pure (hW) (by simp) (by simp) ?_; try simp )
    | (refine CallK.intro (hW) (by simp) (by simp) ?_; try simp )
    | (refine CallG.intro (fun _ => hW) (by simp) (by simp) ?_; try simp )
    | ((with_reducible refine PreK.intro ?_ ?_); (next => (first | omega | (intros; first | omega | (refine ⟨by omega, ?_⟩; repeat (first | assumption | constructor)) | assumption))); intro _; try simp )
    | fail)
  refine CallX.deep (by simpa using hsm) (by simp) (by simp) ?_
  try simp 
  repeat (refine PreK.intro (by first | omega | (intros; first | omega | (refine ⟨by omega, ?_⟩; simp_all; done) | (simp_all; done) | (simp_all; omega))) fun _ => ?_; (try simp ))
  refine CondK.ff ?_
  try simp 
  try simp 
  repeat (refine PreK.intro (by first | omega | (intros; first | omega | (refine ⟨by omega, ?_⟩; simp_all; done) | (simp_all; done) | (simp_all; omega))) fun _ => ?_; (try simp ))
  refine CondK.ff ?_
  try simp 
  refine ShiftK.start [8, 1, 0] (by simp) ?_
  try simp 
  repeat (refine PreK.intro (by first | omega | (intros; first | omega | (refine ⟨by omega, ?_⟩; simp_all; done) | (simp_all; done) | (simp_all; omega))) fun _ => ?_; (try simp ))
  try simp 
  repeat' (first
    | (refine CallX.pure (hJ) (by simp) (by simp) ?_; try simp )
    | (refine CallK.intro (hJ) (by simp) (by simp) ?_; try simp )
    | (refine CallG.intro (fun _ => hJ) (by simp) (by simp) ?_; try simp )
    | ((with_reducible refine PreK.intro ?_ ?_); (next => (first | omega | (intros; first | omega | (refine ⟨by omega, ?_⟩; repeat (first | assumption | constructor)) | assumption))); intro _; try simp )
    | fail)
  try simp 
  repeat (refine PreK.intro (by first | omega | (intros; first | omega | (refine ⟨by omega, ?_⟩; simp_all; done) | (simp_all; done) | (simp_all; omega))) fun _ => ?_; (try simp ))
  try simp 
  repeat' (first
    | (refine CallX.pure (c4) (by simp) (by simp) ?_; try simp )
    | (refine CallK.intro (c4) (by simp) (by simp) ?_; try simp )
    | (refine CallG.intro (fun _ => c4) (by simp) (by simp) ?_; try simp )
    | ((with_reducible refine PreK.intro ?_ ?_); (next => (first | omega | (intros; first | omega | (refine ⟨by omega, ?_⟩; repeat (first | assumption | constructor)) | assumption))); intro _; try simp )
    | fail)
  try simp 
  repeat (refine PreK.intro (by first | omega | (intros; first | omega | (refine ⟨by omega, ?_⟩; simp_all; done) | (simp_all; done) | (simp_all; omega))) fun _ => ?_; (try simp ))
  try simp 
  repeat' (first
    | (refine CallX.pure (c6) (by simp) (by simp) ?_; try simp )
    | (refine CallK.intro (c6) (by simp) (by simp) ?_; try simp )
    | (refine CallG.intro (fun _ => c6) (by simp) (by simp) ?_; try simp )
    | ((with_reducible refine PreK.intro ?_ ?_); (next => (first | omega | (intros; first | omega | (refine ⟨by omega, ?_⟩; repeat (first | assumption | constructor)) | assumption))); intro _; try simp )
    | fail)
  try simp 
  repeat (refine PreK.intro (by first | omega | (intros; first | omega | (refine ⟨by omega, ?_⟩; simp_all; done) | (simp_all; done) | (simp_all; omega))) fun _ => ?_; (try simp ))
  try simp 
  repeat' (first
    | (refine CallX.pure (hst) (by simp) (by simp) ?_; try simp )
    | (refine CallK.intro (hst) (by simp) (by simp) ?_; try simp )
    | (refine CallG.intro (fun _ => hst) (by simp) (by simp) ?_; try simp )
    | ((with_reducible refine PreK.intro ?_ ?_); (next => (first | omega | (intros; first | omega | (refine ⟨by omega, ?_⟩; repeat (first | assumption | constructor)) | assumption))); intro _; try simp )
    | fail)
  try simp 
  repeat (refine PreK.intro (by first | omega | (intros; first | omega | (refine ⟨by omega, ?_⟩; simp_all; done) | (simp_all; done) | (simp_all; omega))) fun _ => ?_; (try simp ))
  try simp 
  repeat' (first
    | (refine CallX.pure (c7) (by simp) (by simp) ?_; try simp )
    | (refine CallK.intro (c7) (by simp) (by simp) ?_; try simp )
    | (refine CallG.intro (fun _ => c7) (by simp) (by simp) ?_; try simp )
    | ((with_reducible refine PreK.intro ?_ ?_); (next => (first | omega | (intros; first | omega | (refine ⟨by omega, ?_⟩; repeat (first | assumption | constructor)) | assumption))); intro _; try simp )
    | fail)
  try simp 
  repeat (refine PreK.intro (by first | omega | (intros; first | omega | (refine ⟨by omega, ?_⟩; simp_all; done) | (simp_all; done) | (simp_all; omega))) fun _ => ?_; (try simp ))
  refine ShiftK.stop [18] [0, 7, 8] (by simp) (by simp) ?_
  try simp 
  repeat (refine PreK.intro (by first | omega | (intros; first | omega | (refine ⟨by omega, ?_⟩; simp_all; done) | (simp_all; done) | (simp_all; omega))) fun _ => ?_; (try simp ))
  refine LoopK.by (ι := Nat × List (List Int)) (fun x => ⟨[(19, iv x.1), (18, bv true), (8, .sl 2003 7 0 6), (7, tabV t), (0, tabV t)], (2003, some ⟨1, namT 0 [u0, u1, u2, u3, u4, u5], 7, true⟩) :: rowT 0 x.2⟩) (fun x => 6 - x.1)
    (fun x => x.1 ≤ 6 ∧ x.2.map (·.length) = ([u0, u1, u2, u3, u4, u5] : List (List Int)).map (·.length)) (0, [u0, u1, u2, u3, u4, u5]) ⟨Nat.zero_le _, rfl⟩ (by simp [namT, rowT]) ?_
  intro ⟨i, tos⟩ Q' ⟨hi, hl⟩ hq he hr
  dsimp only at hi hl
  have hln := len_of2 hl
  obtain ⟨y0, y1, y2, y3, y4, y5, rfl⟩ : ∃ y0 y1 y2 y3 y4 y5, tos = [y0, y1, y2, y3, y4, y5] := by
    match tos, hln with
    | [y0, y1, y2, y3, y4, y5], _ => exact ⟨y0, y1, y2, y3, y4, y5, rfl⟩
  simp only [List.map_cons, List.map_nil, List.cons.injEq, and_true] at hl
  obtain ⟨ly0, ly1, ly2, ly3, ly4, ly5⟩ := hl
  have hi6 : i = 0 ∨ i = 1 ∨ i = 2 ∨ i = 3 ∨ i = 4 ∨ i = 5 ∨ i = 6 := by omega
  rcases hi6 with rfl | rfl | rfl | rfl | rfl | rfl | rfl
  · simp only [namT, rowT]
    try simp 
    repeat (refine PreK.intro (by first | omega | (intros; first | omega | (refine ⟨by omega, ?_⟩; simp_all; done) | (simp_all; done) | (simp_all; omega))) fun _ => ?_; (try simp ))
    refine CondK.tt ?_
    try simp 
    try simp 
    repeat (refine PreK.intro (by first | omega | (intros; first | omega | (refine ⟨by omega, ?_⟩; simp_all; done) | (simp_all; done) | (simp_all; omega))) fun _ => ?_; (try simp ))
    refine LoopK.by (ι := Nat × List Int) (fun y => ⟨[(20, iv y.1), (19, iv 0), (18, bv true), (8, .sl 2003 7 0 6), (7, tabV t), (0, tabV t)], [(2003, some ⟨1, namT 0 [u0, u1, u2, u3, u4, u5], 7, true⟩), (1200, some ⟨1, y.2.map iv, 1, false⟩), (1201, some ⟨1, y1.map iv, 1, false⟩), (1202, some ⟨1, y2.map iv, 1, false⟩), (1203, some ⟨1, y3.map iv, 1, false⟩), (1204, some ⟨1, y4.map iv, 1, false⟩), (1205, some ⟨1, y5.map iv, 1, false⟩)]⟩) (fun y => u0.length - y.1)
      (fun y => y.1 ≤ u0.length ∧ y.2.length = u0.length) (0, y0) ⟨Nat.zero_le _, ly0⟩ (by simp [namT]) ?_
    intro ⟨j, y⟩ Q2 ⟨hj, hy⟩ hq2 he2 hr2
    dsimp only at hj hy
    simp only [namT]
    try simp 
    repeat (refine PreK.intro (by first | omega | (intros; first | omega | (refine ⟨by omega, ?_⟩; simp_all; done) | (simp_all; done) | (simp_all; omega))) fun _ => ?_; (try simp ))
    refine CondK.intro (fun h3 => ?_) (fun h3 => ?_)
    · simp at h3
      have hjy : j < y.length := by omega
      try simp [h3, hjy, hy]
      repeat (refine PreK.intro (by first | omega | (intros; first | omega | (refine ⟨by omega, ?_⟩; simp_all; done) | (simp_all; done) | (simp_all; omega))) fun _ => ?_; (try simp [h3, hjy, hy]))
      refine hq2 (j + 1, y.set j (-1)) _ ⟨by dsimp only; omega, by simpa using hy⟩ (by dsimp only; omega) ?_
      simp [List.map_set, namT]
    · simp at h3
      try simp 
      apply he2
      try simp 
      repeat (refine PreK.intro (by first | omega | (intros; first | omega | (refine ⟨by omega, ?_⟩; simp_all; done) | (simp_all; done) | (simp_all; omega))) fun _ => ?_; (try simp ))
      refine hq (1, [y, y1, y2, y3, y4, y5]) _ ⟨by dsimp only; omega, by simp [hy, ly1, ly2, ly3, ly4, ly5]⟩ (by dsimp only; omega) ?_
      simp [namT, rowT]
  · simp only [namT, rowT]
    try simp 
    repeat (refine PreK.intro (by first | omega | (intros; first | omega | (refine ⟨by omega, ?_⟩; simp_all; done) | (simp_all; done) | (simp_all; omega))) fun _ => ?_; (try simp ))
    refine CondK.tt ?_
    try simp 
    try simp 
    repeat (refine PreK.intro (by first | omega | (intros; first | omega | (refine ⟨by omega, ?_⟩; simp_all; done) | (simp_all; done) | (simp_all; omega))) fun _ => ?_; (try simp ))
    refine LoopK.by (ι := Nat × List Int) (fun y => ⟨[(20, iv y.1), (19, iv 1), (18, bv true), (8, .sl 2003 7 0 6), (7, tabV t), (0, tabV t)], [(2003, some ⟨1, namT 0 [u0, u1, u2, u3, u4, u5], 7, true⟩), (1200, some ⟨1, y0.map iv, 1, false⟩), (1201, some ⟨1, y.2.map iv, 1, false⟩), (1202, some ⟨1, y2.map iv, 1, false⟩), (1203, some ⟨1, y3.map iv, 1, false⟩), (1204, some ⟨1, y4.map iv, 1, false⟩), (1205, some ⟨1, y5.map iv, 1, false⟩)]⟩) (fun y => u1.length - y.1)
      (fun y => y.1 ≤ u1.length ∧ y.2.length = u1.length) (0, y1) ⟨Nat.zero_le _, ly1⟩ (by simp [namT]) ?_
    intro ⟨j, y⟩ Q2 ⟨hj, hy⟩ hq2 he2 hr2
    dsimp only at hj hy
    simp only [namT]
    try simp 
    repeat (refine PreK.intro (by first | omega | (intros; first | omega | (refine ⟨by omega, ?_⟩; simp_all; done) | (simp_all; done) | (simp_all; omega))) fun _ => ?_; (try simp ))
    refine CondK.intro (fun h3 => ?_) (fun h3 => ?_)
    · simp at h3
      have hjy : j < y.length := by omega
      try simp [h3, hjy, hy]
      repeat (refine PreK.intro (by first | omega | (intros; first | omega | (refine ⟨by omega, ?_⟩; simp_all; done) | (simp_all; done) | (simp_all; omega))) fun _ => ?_; (try simp [h3, hjy, hy]))
      refine hq2 (j + 1, y.set j (-1)) _ ⟨by dsimp only; omega, by simpa using hy⟩ (by dsimp only; omega) ?_
      simp [List.map_set, namT]
    · simp at h3
      try simp 
      apply he2
      try simp 
      repeat (refine PreK.intro (by first | omega | (intros; first | omega | (refine ⟨by omega, ?_⟩; simp_all; done) | (simp_all; done) | (simp_all; omega))) fun _ => ?_; (try simp ))
      refine hq (2, [y0, y, y2, y3, y4, y5]) _ ⟨by dsimp only; omega, by simp [ly0, hy, ly2, ly3, ly4, ly5]⟩ (by dsimp only; omega) ?_
      simp [namT, rowT]
  · simp only [namT, rowT]
    try simp 
    repeat (refine PreK.intro (by first | omega | (intros; first | omega | (refine ⟨by omega, ?_⟩; simp_all; done) | (simp_all; done) | (simp_all; omega))) fun _ => ?_; (try simp ))
    refine CondK.tt ?_
    try simp 
    try simp 
    repeat (refine PreK.intro (by first | omega | (intros; first | omega | (refine ⟨by omega, ?_⟩; simp_all; done) | (simp_all; done) | (simp_all; omega))) fun _ => ?_; (try simp ))
    refine LoopK.by (ι := Nat × List Int) (fun y => ⟨[(20, iv y.1), (19, iv 2), (18, bv true), (8, .sl 2003 7 0 6), (7, tabV t), (0, tabV t)], [(2003, some ⟨1, namT 0 [u0, u1, u2, u3, u4, u5], 7, true⟩), (1200, some ⟨1, y0.map iv, 1, false⟩), (1201, some ⟨1, y1.map iv, 1, false⟩), (1202, some ⟨1, y.2.map iv, 1, false⟩), (1203, some ⟨1, y3.map iv, 1, false⟩), (1204, some ⟨1, y4.map iv, 1, false⟩), (1205, some ⟨1, y5.map iv, 1, false⟩)]⟩) (fun y => u2.length - y.1)
      (fun y => y.1 ≤ u2.length ∧ y.2.length = u2.length) (0, y2) ⟨Nat.zero_le _, ly2⟩ (by simp [namT]) ?_
    intro ⟨j, y⟩ Q2 ⟨hj, hy⟩ hq2 he2 hr2
    dsimp only at hj hy
    simp only [namT]
    try simp 
    repeat (refine PreK.intro (by first | omega | (intros; first | omega | (refine ⟨by omega, ?_⟩; simp_all; done) | (simp_all; done) | (simp_all; omega))) fun _ => ?_; (try simp ))
    refine CondK.intro (fun h3 => ?_) (fun h3 => ?_)
    · simp at h3
      have hjy : j < y.length := by omega
      try simp [h3, hjy, hy]
      repeat (refine PreK.intro (by first | omega | (intros; first | omega | (refine ⟨by omega, ?_⟩; simp_all; done) | (simp_all; done) | (simp_all; omega))) fun _ => ?_; (try simp [h3, hjy, hy]))
      refine hq2 (j + 1, y.set j (-1)) _ ⟨by dsimp only; omega, by simpa using hy⟩ (by dsimp only; omega) ?_
      simp [List.map_set, namT]
    · simp at h3
      try simp 
      apply he2
      try simp 
      repeat (refine PreK.intro (by first | omega | (intros; first | omega | (refine ⟨by omega, ?_⟩; simp_all; done) | (simp_all; done) | (simp_all; omega))) fun _ => ?_; (try simp ))
      refine hq (3, [y0, y1, y, y3, y4, y5]) _ ⟨by dsimp only; omega, by simp [ly0, ly1, hy, ly3, ly4, ly5]⟩ (by dsimp only; omega) ?_
      simp [namT, rowT]
  · simp only [namT, rowT]
    try simp 
    repeat (refine PreK.intro (by first | omega | (intros; first | omega | (refine ⟨by omega, ?_⟩; simp_all; done) | (simp_all; done) | (simp_all; omega))) fun _ => ?_; (try simp ))
    refine CondK.tt ?_
    try simp 
    try simp 
    repeat (refine PreK.intro (by first | omega | (intros; first | omega | (refine ⟨by omega, ?_⟩; simp_all; done) | (simp_all; done) | (simp_all; omega))) fun _ => ?_; (try simp ))
    refine LoopK.by (ι := Nat × List Int) (fun y => ⟨[(20, iv y.1), (19, iv 3), (18, bv true), (8, .sl 2003 7 0 6), (7, tabV t), (0, tabV t)], [(2003, some ⟨1, namT 0 [u0, u1, u2, u3, u4, u5], 7, true⟩), (1200, some ⟨1, y0.map iv, 1, false⟩), (1201, some ⟨1, y1.map iv, 1, false⟩), (1202, some ⟨1, y2.map iv, 1, false⟩), (1203, some ⟨1, y.2.map iv, 1, false⟩), (1204, some ⟨1, y4.map iv, 1, false⟩), (1205, some ⟨1, y5.map iv, 1, false⟩)]⟩) (fun y => u3.length - y.1)
      (fun y => y.1 ≤ u3.length ∧ y.2.length = u3.length) (0, y3) ⟨Nat.zero_le _, ly3⟩ (by simp [namT]) ?_
    intro ⟨j, y⟩ Q2 ⟨hj, hy⟩ hq2 he2 hr2
    dsimp only at hj hy
    simp only [namT]
    try simp 
    repeat (refine PreK.intro (by first | omega | (intros; first | omega | (refine ⟨by omega, ?_⟩; simp_all; done) | (simp_all; done) | (simp_all; omega))) fun _ => ?_; (try simp ))
    refine CondK.intro (fun h3 => ?_) (fun h3 => ?_)
    · simp at h3
      have hjy : j < y.length := by omega
      try simp [h3, hjy, hy]
      repeat (refine PreK.intro (by first | omega | (intros; first | omega | (refine ⟨by omega, ?_⟩; simp_all; done) | (simp_all; done) | (simp_all; omega))) fun _ => ?_; (try simp [h3, hjy, hy]))
      refine hq2 (j + 1, y.set j (-1)) _ ⟨by dsimp only; omega, by simpa using hy⟩ (by dsimp only; omega) ?_
      simp [List.map_set, namT]
    · simp at h3
      try simp 
      apply he2
      try simp 
      repeat (refine PreK.intro (by first | omega | (intros; first | omega | (refine ⟨by omega, ?_⟩; simp_all; done) | (simp_all; done) | (simp_all; omega))) fun _ => ?_; (try simp ))
      refine hq (4, [y0, y1, y2, y, y4, y5]) _ ⟨by dsimp only; omega, by simp [ly0, ly1, ly2, hy, ly4, ly5]⟩ (by dsimp only; omega) ?_
      simp [namT, rowT]
  · simp only [namT, rowT]
    try simp 
    repeat (refine PreK.intro (by first | omega | (intros; first | omega | (refine ⟨by omega, ?_⟩; simp_all; done) | (simp_all; done) | (simp_all; omega))) fun _ => ?_; (try simp ))
    refine CondK.tt ?_
    try simp 
    try simp 
    repeat (refine PreK.intro (by first | omega | (intros; first | omega | (refine ⟨by omega, ?_⟩; simp_all; done) | (simp_all; done) | (simp_all; omega))) fun _ => ?_; (try simp ))
    refine LoopK.by (ι := Nat × List Int) (fun y => ⟨[(20, iv y.1), (19, iv 4), (18, bv true), (8, .sl 2003 7 0 6), (7, tabV t), (0, tabV t)], [(2003, some ⟨1, namT 0 [u0, u1, u2, u3, u4, u5], 7, true⟩), (1200, some ⟨1, y0.map iv, 1, false⟩), (1201, some ⟨1, y1.map iv, 1, false⟩), (1202, some ⟨1, y2.map iv, 1, false⟩), (1203, some ⟨1, y3.map iv, 1, false⟩), (1204, some ⟨1, y.2.map iv, 1, false⟩), (1205, some ⟨1, y5.map iv, 1, false⟩)]⟩) (fun y => u4.length - y.1)
      (fun y => y.1 ≤ u4.length ∧ y.2.length = u4.length) (0, y4) ⟨Nat.zero_le _, ly4⟩ (by simp [namT]) ?_
    intro ⟨j, y⟩ Q2 ⟨hj, hy⟩ hq2 he2 hr2
    dsimp only at hj hy
    simp only [namT]
    try simp 
    repeat (refine PreK.intro (by first | omega | (intros; first | omega | (refine ⟨by omega, ?_⟩; simp_all; done) | (simp_all; done) | (simp_all; omega))) fun _ => ?_; (try simp ))
    refine CondK.intro (fun h3 => ?_) (fun h3 => ?_)
    · simp at h3
      have hjy : j < y.length := by omega
      try simp [h3, hjy, hy]
      repeat (refine PreK.intro (by first | omega | (intros; first | omega | (refine ⟨by omega, ?_⟩; simp_all; done) | (simp_all; done) | (simp_all; omega))) fun _ => ?_; (try simp [h3, hjy, hy]))
      refine hq2 (j + 1, y.set j (-1)) _ ⟨by dsimp only; omega, by simpa using hy⟩ (by dsimp only; omega) ?_
      simp [List.map_set, namT]
    · simp at h3
      try simp 
      apply he2
      try simp 
      repeat (refine PreK.intro (by first | omega | (intros; first | omega | (refine ⟨by omega, ?_⟩; simp_all; done) | (simp_all; done) | (simp_all; omega))) fun _ => ?_; (try simp ))
      refine hq (5, [y0, y1, y2, y3, y, y5]) _ ⟨by dsimp only; omega, by simp [ly0, ly1, ly2, ly3, hy, ly5]⟩ (by dsimp only; omega) ?_
      simp [namT, rowT]
  · simp only [namT, rowT]
    try simp 
    repeat (refine PreK.intro (by first | omega | (intros; first | omega | (refine ⟨by omega, ?_⟩; simp_all; done) | (simp_all; done) | (simp_all; omega))) fun _ => ?_; (try simp ))
    refine CondK.tt ?_
    try simp 
    try simp 
    repeat (refine PreK.intro (by first | omega | (intros; first | omega | (refine ⟨by omega, ?_⟩; simp_all; done) | (simp_all; done) | (simp_all; omega))) fun _ => ?_; (try simp ))
    refine LoopK.by (ι := Nat × List Int) (fun y => ⟨[(20, iv y.1), (19, iv 5), (18, bv true), (8, .sl 2003 7 0 6), (7, tabV t), (0, tabV t)], [(2003, some ⟨1, namT 0 [u0, u1, u2, u3, u4, u5], 7, true⟩), (1200, some ⟨1, y0.map iv, 1, false⟩), (1201, some ⟨1, y1.map iv, 1, false⟩), (1202, some ⟨1, y2.map iv, 1, false⟩), (1203, some ⟨1, y3.map iv, 1, false⟩), (1204, some ⟨1, y4.map iv, 1, false⟩), (1205, some ⟨1, y.2.map iv, 1, false⟩)]⟩) (fun y => u5.length - y.1)
      (fun y => y.1 ≤ u5.length ∧ y.2.length = u5.length) (0, y5) ⟨Nat.zero_le _, ly5⟩ (by simp [namT]) ?_
    intro ⟨j, y⟩ Q2 ⟨hj, hy⟩ hq2 he2 hr2
    dsimp only at hj hy
    simp only [namT]
    try simp 
    repeat (refine PreK.intro (by first | omega | (intros; first | omega | (refine ⟨by omega, ?_⟩; simp_all; done) | (simp_all; done) | (simp_all; omega))) fun _ => ?_; (try simp ))
    refine CondK.intro (fun h3 => ?_) (fun h3 => ?_)
    · simp at h3
      have hjy : j < y.length := by omega
      try simp [h3, hjy, hy]
      repeat (refine PreK.intro (by first | omega | (intros; first | omega | (refine ⟨by omega, ?_⟩; simp_all; done) | (simp_all; done) | (simp_all; omega))) fun _ => ?_; (try simp [h3, hjy, hy]))
      refine hq2 (j + 1, y.set j (-1)) _ ⟨by dsimp only; omega, by simpa using hy⟩ (by dsimp only; omega) ?_
      simp [List.map_set, namT]
    · simp at h3
      try simp 
      apply he2
      try simp 
      repeat (refine PreK.intro (by first | omega | (intros; first | omega | (refine ⟨by omega, ?_⟩; simp_all; done) | (simp_all; done) | (simp_all; omega))) fun _ => ?_; (try simp ))
      refine hq (6, [y0, y1, y2, y3, y4, y]) _ ⟨by dsimp only; omega, by simp [ly0, ly1, ly2, ly3, ly4, hy]⟩ (by dsimp only; omega) ?_
      simp [namT, rowT]
  · simp only [namT, rowT]
    try simp 
    repeat (refine PreK.intro (by first | omega | (intros; first | omega | (refine ⟨by omega, ?_⟩; simp_all; done) | (simp_all; done) | (simp_all; omega))) fun _ => ?_; (try simp ))
    refine CondK.ff ?_
    try simp 
    try simp 
    apply he
    try simp 
    repeat' (first
      | (refine CallX.pure (hst) (by simp) (by simp) ?_; try simp )
      | (refine CallK.intro (hst) (by simp) (by simp) ?_; try simp )
      | (refine CallG.intro (fun _ => hst) (by simp) (by simp) ?_; try simp )
      | (refine CallX.pure (known_c) (by simp) (by simp) ?_; try simp )
      | (refine CallK.intro (known_c) (by simp) (by simp) ?_; try simp )
      | (refine CallG.intro (fun _ => known_c) (by simp) (by simp) ?_; try simp )
      | ((with_reducible refine PreK.intro ?_ ?_); (next => (first | omega | (intros; first | omega | (refine ⟨by omega, ?_⟩; repeat (first | assumption | constructor)) | assumption))); intro _; try simp )
      | fail)
theorem lawSoundSplits_c (t : List (List Int)) (k c : Int) (hb : t.length ≤ big) : CallP Tryz.prog 3 [tabV t, iv k, iv c] (bv true) := by
  have hlg := Long_c t hb
  cases hL : longT t with
  | true =>
    rw [hL] at hlg
    refine C3 (by simp) ?_
    simp [A3]
    try simp 
    repeat' (first
      | (refine CallX.pure (hlg) (by simp) (by simp) ?_; try simp )
      | (refine CallK.intro (hlg) (by simp) (by simp) ?_; try simp )
      | (refine CallG.intro (fun _ => hlg) (by simp) (by simp) ?_; try simp )
      | ((with_reducible refine PreK.intro ?_ ?_); (next => (first | omega | (intros; first | omega | (refine ⟨by omega, ?_⟩; repeat (first | assumption | constructor)) | assumption))); intro _; try simp )
      | fail)
    refine CondK.tt ?_
    try simp 
    try simp 
    repeat' (first
      | (refine CallX.pure (known_c) (by simp) (by simp) ?_; try simp )
      | (refine CallK.intro (known_c) (by simp) (by simp) ?_; try simp )
      | (refine CallG.intro (fun _ => known_c) (by simp) (by simp) ?_; try simp )
      | ((with_reducible refine PreK.intro ?_ ?_); (next => (first | omega | (intros; first | omega | (refine ⟨by omega, ?_⟩; repeat (first | assumption | constructor)) | assumption))); intro _; try simp )
      | fail)
  | false =>
    have hs := longT_small hL
    by_cases h0 : (SplitR t k c).2 = 0
    · obtain ⟨hok, n, m, rfl, rfl, hn, hl, h1, h2, e⟩ := SplitR_ok h0
      have hlen := split_len (t := t) (k := n) (c := m) hn
      have hnum := hok.num
      generalize hA : splitM t n m = A at hlen
      match A, hlen with
      | [u0, u1], _ => exact splits_at2 t n m u0 u1 hs hL hb hok hn hl h1 h2 hA e
      | [u0, u1, u2], _ => exact splits_at3 t n m u0 u1 u2 hs hL hb hok hn hl h1 h2 hA e
      | [u0, u1, u2, u3], _ => exact splits_at4 t n m u0 u1 u2 u3 hs hL hb hok hn hl h1 h2 hA e
      | [u0, u1, u2, u3, u4], _ => exact splits_at5 t n m u0 u1 u2 u3 u4 hs hL hb hok hn hl h1 h2 hA e
      | [u0, u1, u2, u3, u4, u5], _ => exact splits_at6 t n m u0 u1 u2 u3 u4 u5 hs hL hb hok hn hl h1 h2 hA e
      | [], h => simp at h
      | [_], h => simp only [List.length_cons, List.length_nil] at h; omega
      | _ :: _ :: _ :: _ :: _ :: _ :: _ :: _, h => simp only [List.length_cons] at h; omega
    · rw [hL] at hlg
      obtain ⟨hWe, hm⟩ := Split_e t k c hs h0
      have hW := rSplit_c t k c hs
      generalize (SplitR t k c).2 = E at hWe hm h0
      rw [hWe] at hW
      dsimp only at hW
      have hcp := rCopy_c t hs
      have c3 := sameLists_c [] [] (by simp) (by simp)
      refine C3 (by simp) ?_
      simp [A3]
      try simp 
      repeat' (first
        | (refine CallX.pure (hlg) (by simp) (by simp) ?_; try simp )
        | (refine CallK.intro (hlg) (by simp) (by simp) ?_; try simp )
        | (refine CallG.intro (fun _ => hlg) (by simp) (by simp) ?_; try simp )
        | ((with_reducible refine PreK.intro ?_ ?_); (next => (first | omega | (intros; first | omega | (refine ⟨by omega, ?_⟩; repeat (first | assumption | constructor)) | assumption))); intro _; try simp )
        | fail)
      refine CondK.ff ?_
      try simp 
      try simp 
      repeat' (first
        | (refine CallX.pure (hcp) (by simp) (by simp) ?_; try simp )
        | (refine CallK.intro (hcp) (by simp) (by simp) ?_; try simp )
        | (refine CallG.intro (fun _ => hcp) (by simp) (by simp) ?_; try simp )
        | ((with_reducible refine PreK.intro ?_ ?_); (next => (first | omega | (intros; first | omega | (refine ⟨by omega, ?_⟩; repeat (first | assumption | constructor)) | assumption))); intro _; try simp )
        | fail)
      try simp 
      repeat' (first
        | (refine CallX.pure (hm) (by simp) (by simp) ?_; try simp )
        | (refine CallK.intro (hm) (by simp) (by simp) ?_; try simp )
        | (refine CallG.intro (fun _ => hm) (by simp) (by simp) ?_; try simp )
        | ((with_reducible refine PreK.intro ?_ ?_); (next => (first | omega | (intros; first | omega | (refine ⟨by omega, ?_⟩; repeat (first | assumption | constructor)) | assumption))); intro _; try simp )
        | fail)
      try simp 
      repeat (refine PreK.intro (by first | omega | (intros; first | omega | (refine ⟨by omega, ?_⟩; simp_all; done) | (simp_all; done) | (simp_all; omega))) fun _ => ?_; (try simp ))
      try simp 
      repeat' (first
        | (refine CallX.pure (hW) (by simp) (by simp) ?_; try simp )
        | (refine CallK.intro (hW) (by simp) (by simp) ?_; try simp )
        | (refine CallG.intro (fun _ => hW) (by simp) (by simp) ?_; try simp )
        | ((with_reducible refine PreK.intro ?_ ?_); (next => (first | omega | (intros; first | omega | (refine ⟨by omega, ?_⟩; repeat (first | assumption | constructor)) | assumption))); intro _; try simp )
        | fail)
      try simp 
      repeat (refine PreK.intro (by first | omega | (intros; first | omega | (refine ⟨by omega, ?_⟩; simp_all; done) | (simp_all; done) | (simp_all; omega))) fun _ => ?_; (try simp ))
      try simp 
      repeat' (first
        | (refine CallX.pure (c3) (by simp) (by simp) ?_; try simp )
        | (refine CallK.intro (c3) (by simp) (by simp) ?_; try simp )
        | (refine CallG.intro (fun _ => c3) (by simp) (by simp) ?_; try simp )
        | ((with_reducible refine PreK.intro ?_ ?_); (next => (first | omega | (intros; first | omega | (refine ⟨by omega, ?_⟩; repeat (first | assumption | constructor)) | assumption))); intro _; try simp )
        | fail)
      try simp 
      repeat (refine PreK.intro (by first | omega | (intros; first | omega | (refine ⟨by omega, ?_⟩; simp_all; done) | (simp_all; done) | (simp_all; omega))) fun _ => ?_; (try simp ))
      refine CondK.ff ?_
      try simp 
      try simp [h0]
      repeat (refine PreK.intro (by first | omega | (intros; first | omega | (refine ⟨by omega, ?_⟩; simp_all; done) | (simp_all; done) | (simp_all; omega))) fun _ => ?_; (try simp [h0]))
      refine CondK.tt ?_
      try simp 
      try simp 
      repeat' (first
        | (refine CallX.pure (known_c) (by simp) (by simp) ?_; try simp )
        | (refine CallK.intro (known_c) (by simp) (by simp) ?_; try simp )
        | (refine CallG.intro (fun _ => known_c) (by simp) (by simp) ?_; try simp )
        | ((with_reducible refine PreK.intro ?_ ?_); (next => (first | omega | (intros; first | omega | (refine ⟨by omega, ?_⟩; repeat (first | assumption | constructor)) | assumption))); intro _; try simp )
        | fail)
end Go.Proofs.YtphkchjhghdhiaaGreat
end
