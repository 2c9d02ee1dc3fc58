/- Part 8 of the proof: the value layer and the contracts of the functions that the statement reaches; proved without conditions beyond those each theorem states. -/
import Derived.Test.YtgfgkfkplidncaaGreatV5
import Derived.Test.YtgfgkfkplidncaaGreatV7
set_option linter.unusedSimpArgs false
set_option linter.unusedVariables false

section
/- Contracts: copies of tables that own their rows; other sounds (sound.Rename, ref01.Rename). (written by mkren.py) -/
namespace Go.Proofs.YtgfgkfkplidncaaGreat
open Go.Abs Go
set_option maxRecDepth 20000
set_option maxHeartbeats 8000000
attribute [local irreducible] PreK CondK CallK CallG CallX LoopK
/- PURSE -/
attribute [local simp] avsEq avEq akind teq vkind vEq

def rowN (t : List (List Int)) (n : Nat) : List AV := (List.range n).map fun i => .sl (100 + i) 1 0 (el t i).length
def rowM (t : List (List Int)) (n : Nat) : List (Nat × Option Box) := (List.range n).map fun i => (100 + i, some ⟨1, (el t i).map iv, 1, false⟩)
theorem range_succ' (n : Nat) : List.range (n + 1) = List.range n ++ [n] := List.range_succ
theorem CM67 {args : List AV} {r : AV} {m' : List (Nat × Option Box)} (hn : args.length ≤ 19) (h : vc Tryz.prog T [15] A67 (FinM T [(.tmp 2)] r m') ⟨envOf 0 args, []⟩) : CallM Tryz.prog 67 args r m' :=
  callM_of tok mixed Tryz.func67 (by kernel_rfl) (by kernel_rfl) (by kernel_rfl : Tryz.f67.ntmps = 19) (by kernel_rfl : Tryz.f67.body.bind (strip 19 (fun _ => [])) = some A67) hn h
theorem scopied_m (t : List (List Int)) (h1 : 1 ≤ t.length) (h6 : t.length ≤ 6) (hw : ∀ j, j < t.length → 1 ≤ (el t j).length ∧ (el t j).length ≤ 1000) :
    CallM Tryz.prog 67 [tabV t] (.sl 3 (t.length + 1) 0 t.length) ((3, some ⟨1, rowN t t.length, t.length + 1, true⟩) :: rowM t t.length) := by
  refine CM67 (by simp) ?_
  simp [A67]
  try simp 
  repeat (refine PreK.intro (by first | omega | (intros; first | omega | (refine ⟨by omega, ?_⟩; simp_all; done) | (simp_all; done) | (simp_all; omega))) fun _ => ?_; (try simp ))
  refine LoopK.byR (ι := Nat) (fun i => ⟨[(8, iv i), (7, iv t.length), (6, tabV t), (3, .sl 3 (i + 1) 0 i)], (3, some ⟨1, rowN t i, i + 1, true⟩) :: rowM t i⟩) (fun i => t.length - i) (fun i => i ≤ t.length) 0 (Nat.zero_le _) (by simp [rowN, rowM, leEls_refl]) ?_
  intro i Q' hi hq he hr hfz
  by_cases h2 : i < t.length
  · obtain ⟨hwa, hwb⟩ := hw i h2
    have hwc : ¬ el t i = [] := fun e => by rw [e] at hwa; simp at hwa
    have hcl := clone_o (el t i) hwb
    have hi6 : i = 0 ∨ i = 1 ∨ i = 2 ∨ i = 3 ∨ i = 4 ∨ i = 5 := by omega
    rcases hi6 with rfl | rfl | rfl | rfl | rfl | rfl
    · have h2' : (0 : Int) < t.length := by omega
      simp only [rowN, rowM, range_succ', List.range_zero, List.nil_append, List.map_append, List.map_cons, List.map_nil, List.cons_append]
      try simp [h2, h2']
      repeat (refine PreK.intro (by first | omega | (intros; first | omega | (refine ⟨by omega, ?_⟩; simp_all; done) | (simp_all; done) | (simp_all; omega))) fun _ => ?_; (try simp [h2, h2']))
      refine CondK.intro (fun h3 => ?_) (fun h3 => ?_)
      · try simp [h2, h2', hwc]
        repeat (refine PreK.intro (by first | omega | (intros; first | omega | (refine ⟨by omega, ?_⟩; simp_all; done) | (simp_all; done) | (simp_all; omega))) fun _ => ?_; (try simp [h2, h2', hwc]))
        refine CallX.own (by simpa using hcl) (by simp) (by simp) ?_
        try simp [h2, h2', hwc]
        repeat (refine PreK.intro (by first | omega | (intros; first | omega | (refine ⟨by omega, ?_⟩; simp_all; done) | (simp_all; done) | (simp_all; omega))) fun _ => ?_; (try simp [h2, h2', hwc]))
        refine hq 1 [(14, 100)] _ (by omega) (by omega) ?_
        simp [rowN, rowM, range_succ', leEls_refl]
        done
      · simp at h3
    · have h2' : (1 : Int) < t.length := by omega
      simp only [rowN, rowM, range_succ', List.range_zero, List.nil_append, List.map_append, List.map_cons, List.map_nil, List.cons_append]
      try simp [h2, h2']
      repeat (refine PreK.intro (by first | omega | (intros; first | omega | (refine ⟨by omega, ?_⟩; simp_all; done) | (simp_all; done) | (simp_all; omega))) fun _ => ?_; (try simp [h2, h2']))
      refine CondK.intro (fun h3 => ?_) (fun h3 => ?_)
      · try simp [h2, h2', hwc]
        repeat (refine PreK.intro (by first | omega | (intros; first | omega | (refine ⟨by omega, ?_⟩; simp_all; done) | (simp_all; done) | (simp_all; omega))) fun _ => ?_; (try simp [h2, h2', hwc]))
        refine CallX.own (by simpa using hcl) (by simp) (by simp) ?_
        try simp [h2, h2', hwc]
        repeat (refine PreK.intro (by first | omega | (intros; first | omega | (refine ⟨by omega, ?_⟩; simp_all; done) | (simp_all; done) | (simp_all; omega))) fun _ => ?_; (try simp [h2, h2', hwc]))
        refine hq 2 [(14, 101)] _ (by omega) (by omega) ?_
        simp [rowN, rowM, range_succ', leEls_refl]
        done
      · simp at h3
    · have h2' : (2 : Int) < t.length := by omega
      simp only [rowN, rowM, range_succ', List.range_zero, List.nil_append, List.map_append, List.map_cons, List.map_nil, List.cons_append]
      try simp [h2, h2']
      repeat (refine PreK.intro (by first | omega | (intros; first | omega | (refine ⟨by omega, ?_⟩; simp_all; done) | (simp_all; done) | (simp_all; omega))) fun _ => ?_; (try simp [h2, h2']))
      refine CondK.intro (fun h3 => ?_) (fun h3 => ?_)
      · try simp [h2, h2', hwc]
        repeat (refine PreK.intro (by first | omega | (intros; first | omega | (refine ⟨by omega, ?_⟩; simp_all; done) | (simp_all; done) | (simp_all; omega))) fun _ => ?_; (try simp [h2, h2', hwc]))
        refine CallX.own (by simpa using hcl) (by simp) (by simp) ?_
        try simp [h2, h2', hwc]
        repeat (refine PreK.intro (by first | omega | (intros; first | omega | (refine ⟨by omega, ?_⟩; simp_all; done) | (simp_all; done) | (simp_all; omega))) fun _ => ?_; (try simp [h2, h2', hwc]))
        refine hq 3 [(14, 102)] _ (by omega) (by omega) ?_
        simp [rowN, rowM, range_succ', leEls_refl]
        done
      · simp at h3
    · have h2' : (3 : Int) < t.length := by omega
      simp only [rowN, rowM, range_succ', List.range_zero, List.nil_append, List.map_append, List.map_cons, List.map_nil, List.cons_append]
      try simp [h2, h2']
      repeat (refine PreK.intro (by first | omega | (intros; first | omega | (refine ⟨by omega, ?_⟩; simp_all; done) | (simp_all; done) | (simp_all; omega))) fun _ => ?_; (try simp [h2, h2']))
      refine CondK.intro (fun h3 => ?_) (fun h3 => ?_)
      · try simp [h2, h2', hwc]
        repeat (refine PreK.intro (by first | omega | (intros; first | omega | (refine ⟨by omega, ?_⟩; simp_all; done) | (simp_all; done) | (simp_all; omega))) fun _ => ?_; (try simp [h2, h2', hwc]))
        refine CallX.own (by simpa using hcl) (by simp) (by simp) ?_
        try simp [h2, h2', hwc]
        repeat (refine PreK.intro (by first | omega | (intros; first | omega | (refine ⟨by omega, ?_⟩; simp_all; done) | (simp_all; done) | (simp_all; omega))) fun _ => ?_; (try simp [h2, h2', hwc]))
        refine hq 4 [(14, 103)] _ (by omega) (by omega) ?_
        simp [rowN, rowM, range_succ', leEls_refl]
        done
      · simp at h3
    · have h2' : (4 : Int) < t.length := by omega
      simp only [rowN, rowM, range_succ', List.range_zero, List.nil_append, List.map_append, List.map_cons, List.map_nil, List.cons_append]
      try simp [h2, h2']
      repeat (refine PreK.intro (by first | omega | (intros; first | omega | (refine ⟨by omega, ?_⟩; simp_all; done) | (simp_all; done) | (simp_all; omega))) fun _ => ?_; (try simp [h2, h2']))
      refine CondK.intro (fun h3 => ?_) (fun h3 => ?_)
      · try simp [h2, h2', hwc]
        repeat (refine PreK.intro (by first | omega | (intros; first | omega | (refine ⟨by omega, ?_⟩; simp_all; done) | (simp_all; done) | (simp_all; omega))) fun _ => ?_; (try simp [h2, h2', hwc]))
        refine CallX.own (by simpa using hcl) (by simp) (by simp) ?_
        try simp [h2, h2', hwc]
        repeat (refine PreK.intro (by first | omega | (intros; first | omega | (refine ⟨by omega, ?_⟩; simp_all; done) | (simp_all; done) | (simp_all; omega))) fun _ => ?_; (try simp [h2, h2', hwc]))
        refine hq 5 [(14, 104)] _ (by omega) (by omega) ?_
        simp [rowN, rowM, range_succ', leEls_refl]
        done
      · simp at h3
    · have h2' : (5 : Int) < t.length := by omega
      simp only [rowN, rowM, range_succ', List.range_zero, List.nil_append, List.map_append, List.map_cons, List.map_nil, List.cons_append]
      try simp [h2, h2']
      repeat (refine PreK.intro (by first | omega | (intros; first | omega | (refine ⟨by omega, ?_⟩; simp_all; done) | (simp_all; done) | (simp_all; omega))) fun _ => ?_; (try simp [h2, h2']))
      refine CondK.intro (fun h3 => ?_) (fun h3 => ?_)
      · try simp [h2, h2', hwc]
        repeat (refine PreK.intro (by first | omega | (intros; first | omega | (refine ⟨by omega, ?_⟩; simp_all; done) | (simp_all; done) | (simp_all; omega))) fun _ => ?_; (try simp [h2, h2', hwc]))
        refine CallX.own (by simpa using hcl) (by simp) (by simp) ?_
        try simp [h2, h2', hwc]
        repeat (refine PreK.intro (by first | omega | (intros; first | omega | (refine ⟨by omega, ?_⟩; simp_all; done) | (simp_all; done) | (simp_all; omega))) fun _ => ?_; (try simp [h2, h2', hwc]))
        refine hq 6 [(14, 105)] _ (by omega) (by omega) ?_
        simp [rowN, rowM, range_succ', leEls_refl]
        done
      · simp at h3
  · have : i = t.length := by omega
    subst this
    have hn : t.length = 1 ∨ t.length = 2 ∨ t.length = 3 ∨ t.length = 4 ∨ t.length = 5 ∨ t.length = 6 := by omega
    try simp 
    refine CondK.intro (fun h3 => ?_) (fun h3 => ?_)
    · simp at h3
    · try simp 
      apply he
      try simp 
      repeat (refine PreK.intro (by first | omega | (intros; first | omega | (refine ⟨by omega, ?_⟩; simp_all; done) | (simp_all; done) | (simp_all; omega))) fun _ => ?_; (try simp ))
      refine ⟨[], ?_⟩
      rcases hn with h | h | h | h | h | h <;> simp [h, rowN, rowM, range_succ'] <;> done
theorem CM34 {args : List AV} {r : AV} {m' : List (Nat × Option Box)} (hn : args.length ≤ 21) (h : vc Tryz.prog T [18] A34 (FinM T [(.tmp 2)] r m') ⟨envOf 0 args, []⟩) : CallM Tryz.prog 34 args r m' :=
  callM_of tok mixed Tryz.func34 (by kernel_rfl) (by kernel_rfl) (by kernel_rfl : Tryz.f34.ntmps = 21) (by kernel_rfl : Tryz.f34.body.bind (strip 21 (fun _ => [])) = some A34) hn h
theorem rCopy_m (t : List (List Int)) (h1 : 1 ≤ t.length) (h6 : t.length ≤ 6) (hw : ∀ j, j < t.length → 1 ≤ (el t j).length ∧ (el t j).length ≤ 1000) :
    CallM Tryz.prog 34 [tabV t] (.sl 3 (t.length + 1) 0 t.length) ((3, some ⟨1, rowN t t.length, t.length + 1, true⟩) :: rowM t t.length) := by
  refine CM34 (by simp) ?_
  simp [A34]
  try simp 
  repeat (refine PreK.intro (by first | omega | (intros; first | omega | (refine ⟨by omega, ?_⟩; simp_all; done) | (simp_all; done) | (simp_all; omega))) fun _ => ?_; (try simp ))
  refine LoopK.byR (ι := Nat) (fun i => ⟨[(4, iv i), (3, .sl 3 (i + 1) 0 i), (0, tabV t)], (3, some ⟨1, rowN t i, i + 1, true⟩) :: rowM t i⟩) (fun i => t.length - i) (fun i => i ≤ t.length) 0 (Nat.zero_le _) (by simp [rowN, rowM, leEls_refl]) ?_
  intro i Q' hi hq he hr hfz
  by_cases h2 : i < t.length
  · obtain ⟨hwa, hwb⟩ := hw i h2
    have hwc : ¬ el t i = [] := fun e => by rw [e] at hwa; simp at hwa
    have hi6 : i = 0 ∨ i = 1 ∨ i = 2 ∨ i = 3 ∨ i = 4 ∨ i = 5 := by omega
    rcases hi6 with rfl | rfl | rfl | rfl | rfl | rfl
    · have h2' : (0 : Int) < t.length := by omega
      simp only [rowN, rowM, range_succ', List.range_zero, List.nil_append, List.map_append, List.map_cons, List.map_nil, List.cons_append]
      try simp [h2, h2']
      repeat (refine PreK.intro (by first | omega | (intros; first | omega | (refine ⟨by omega, ?_⟩; simp_all; done) | (simp_all; done) | (simp_all; omega))) fun _ => ?_; (try simp [h2, h2']))
      refine CondK.intro (fun h3 => ?_) (fun h3 => ?_)
      · try simp [h2, h2', hwc]
        repeat (refine PreK.intro (by first | omega | (intros; first | omega | (refine ⟨by omega, ?_⟩; simp_all; done) | (simp_all; done) | (simp_all; omega))) fun _ => ?_; (try simp [h2, h2', hwc]))
        refine hq 1 [(17, 100)] _ (by omega) (by omega) ?_
        simp [rowN, rowM, range_succ', leEls_refl]
        done
      · simp at h3
    · have h2' : (1 : Int) < t.length := by omega
      simp only [rowN, rowM, range_succ', List.range_zero, List.nil_append, List.map_append, List.map_cons, List.map_nil, List.cons_append]
      try simp [h2, h2']
      repeat (refine PreK.intro (by first | omega | (intros; first | omega | (refine ⟨by omega, ?_⟩; simp_all; done) | (simp_all; done) | (simp_all; omega))) fun _ => ?_; (try simp [h2, h2']))
      refine CondK.intro (fun h3 => ?_) (fun h3 => ?_)
      · try simp [h2, h2', hwc]
        repeat (refine PreK.intro (by first | omega | (intros; first | omega | (refine ⟨by omega, ?_⟩; simp_all; done) | (simp_all; done) | (simp_all; omega))) fun _ => ?_; (try simp [h2, h2', hwc]))
        refine hq 2 [(17, 101)] _ (by omega) (by omega) ?_
        simp [rowN, rowM, range_succ', leEls_refl]
        done
      · simp at h3
    · have h2' : (2 : Int) < t.length := by omega
      simp only [rowN, rowM, range_succ', List.range_zero, List.nil_append, List.map_append, List.map_cons, List.map_nil, List.cons_append]
      try simp [h2, h2']
      repeat (refine PreK.intro (by first | omega | (intros; first | omega | (refine ⟨by omega, ?_⟩; simp_all; done) | (simp_all; done) | (simp_all; omega))) fun _ => ?_; (try simp [h2, h2']))
      refine CondK.intro (fun h3 => ?_) (fun h3 => ?_)
      · try simp [h2, h2', hwc]
        repeat (refine PreK.intro (by first | omega | (intros; first | omega | (refine ⟨by omega, ?_⟩; simp_all; done) | (simp_all; done) | (simp_all; omega))) fun _ => ?_; (try simp [h2, h2', hwc]))
        refine hq 3 [(17, 102)] _ (by omega) (by omega) ?_
        simp [rowN, rowM, range_succ', leEls_refl]
        done
      · simp at h3
    · have h2' : (3 : Int) < t.length := by omega
      simp only [rowN, rowM, range_succ', List.range_zero, List.nil_append, List.map_append, List.map_cons, List.map_nil, List.cons_append]
      try simp [h2, h2']
      repeat (refine PreK.intro (by first | omega | (intros; first | omega | (refine ⟨by omega, ?_⟩; simp_all; done) | (simp_all; done) | (simp_all; omega))) fun _ => ?_; (try simp [h2, h2']))
      refine CondK.intro (fun h3 => ?_) (fun h3 => ?_)
      · try simp [h2, h2', hwc]
        repeat (refine PreK.intro (by first | omega | (intros; first | omega | (refine ⟨by omega, ?_⟩; simp_all; done) | (simp_all; done) | (simp_all; omega))) fun _ => ?_; (try simp [h2, h2', hwc]))
        refine hq 4 [(17, 103)] _ (by omega) (by omega) ?_
        simp [rowN, rowM, range_succ', leEls_refl]
        done
      · simp at h3
    · have h2' : (4 : Int) < t.length := by omega
      simp only [rowN, rowM, range_succ', List.range_zero, List.nil_append, List.map_append, List.map_cons, List.map_nil, List.cons_append]
      try simp [h2, h2']
      repeat (refine PreK.intro (by first | omega | (intros; first | omega | (refine ⟨by omega, ?_⟩; simp_all; done) | (simp_all; done) | (simp_all; omega))) fun _ => ?_; (try simp [h2, h2']))
      refine CondK.intro (fun h3 => ?_) (fun h3 => ?_)
      · try simp [h2, h2', hwc]
        repeat (refine PreK.intro (by first | omega | (intros; first | omega | (refine ⟨by omega, ?_⟩; simp_all; done) | (simp_all; done) | (simp_all; omega))) fun _ => ?_; (try simp [h2, h2', hwc]))
        refine hq 5 [(17, 104)] _ (by omega) (by omega) ?_
        simp [rowN, rowM, range_succ', leEls_refl]
        done
      · simp at h3
    · have h2' : (5 : Int) < t.length := by omega
      simp only [rowN, rowM, range_succ', List.range_zero, List.nil_append, List.map_append, List.map_cons, List.map_nil, List.cons_append]
      try simp [h2, h2']
      repeat (refine PreK.intro (by first | omega | (intros; first | omega | (refine ⟨by omega, ?_⟩; simp_all; done) | (simp_all; done) | (simp_all; omega))) fun _ => ?_; (try simp [h2, h2']))
      refine CondK.intro (fun h3 => ?_) (fun h3 => ?_)
      · try simp [h2, h2', hwc]
        repeat (refine PreK.intro (by first | omega | (intros; first | omega | (refine ⟨by omega, ?_⟩; simp_all; done) | (simp_all; done) | (simp_all; omega))) fun _ => ?_; (try simp [h2, h2', hwc]))
        refine hq 6 [(17, 105)] _ (by omega) (by omega) ?_
        simp [rowN, rowM, range_succ', leEls_refl]
        done
      · simp at h3
  · have : i = t.length := by omega
    subst this
    have hn : t.length = 1 ∨ t.length = 2 ∨ t.length = 3 ∨ t.length = 4 ∨ t.length = 5 ∨ t.length = 6 := by omega
    try simp 
    refine CondK.intro (fun h3 => ?_) (fun h3 => ?_)
    · simp at h3
    · try simp 
      apply he
      try simp 
      repeat (refine PreK.intro (by first | omega | (intros; first | omega | (refine ⟨by omega, ?_⟩; simp_all; done) | (simp_all; done) | (simp_all; omega))) fun _ => ?_; (try simp ))
      refine ⟨[], ?_⟩
      rcases hn with h | h | h | h | h | h <;> simp [h, rowN, rowM, range_succ'] <;> done
/-! ### other sounds -/
def mixR (f : Int → Int) (A : List Int) (i : Nat) : List Int := (A.map f).take i ++ A.drop i
theorem mixR_zero (f : Int → Int) (A : List Int) : mixR f A 0 = A := by simp [mixR]
theorem mixR_all (f : Int → Int) (A : List Int) : mixR f A A.length = A.map f := by
  unfold mixR
  rw [List.take_of_length_le (by simp), List.drop_eq_nil_of_le (Nat.le_refl _), List.append_nil]
theorem mixR_len (f : Int → Int) (A : List Int) (i : Nat) : (mixR f A i).length = A.length := by
  unfold mixR
  rw [List.length_append, List.length_take, List.length_map, List.length_drop]
  omega
theorem mixR_el (f : Int → Int) {A : List Int} {i : Nat} (h : i < A.length) : el (mixR f A i) i = el A i := by
  have e : ((A.map f).take i).length = i := by rw [List.length_take, List.length_map]; omega
  unfold mixR
  rw [drop_cons A i h]
  unfold el
  rw [List.getD_eq_getElem?_getD, List.getElem?_append_right (by omega), e, Nat.sub_self]
  rfl
theorem mixR_set (f : Int → Int) {A : List Int} {i : Nat} (h : i < A.length) : (mixR f A i).set i (f (el A i)) = mixR f A (i + 1) := by
  have e : ((A.map f).take i).length = i := by rw [List.length_take, List.length_map]; omega
  have h2 : i < (A.map f).length := by simpa using h
  unfold mixR
  rw [drop_cons A i h, List.set_append_right _ _ (by omega), e, Nat.sub_self, List.set_cons_zero, take_succ (A.map f) i h2, List.append_assoc]
  congr 2
  rw [el_eq _ i h2, List.getElem_map, el_eq A i h]
def namR (t : List (List Int)) (n : Nat) : List AV := (List.range n).map fun j => .sl (1100 + j) 1 0 (el t j).length
def rowR (t : List (List Int)) (to : List Int) (n k : Nat) : List (Nat × Option Box) := (List.range n).map fun j => (1100 + j, some ⟨1, if j < k then ((el t j).map (renF to)).map iv else (el t j).map iv, 1, false⟩)
def rowQ (t : List (List Int)) (to : List Int) (n k i : Nat) : List (Nat × Option Box) := (List.range n).map fun j => (1100 + j, some ⟨1, if j < k then ((el t j).map (renF to)).map iv else if j = k then (mixR (renF to) (el t j) i).map iv else (el t j).map iv, 1, false⟩)
theorem ren_rows (t : List (List Int)) (to : List Int) : (renM to t).map ints = (List.range t.length).map fun j => ints ((el t j).map (renF to)) := by
  unfold renM
  rw [List.map_map]
  apply List.ext_getElem
  · simp
  · intro i h1 h2
    have hi : i < t.length := by simpa using h1
    simp [el_eq t i hi]
def RenR (t : List (List Int)) (to : List Int) : List (List Int) × Int := if tabErr t ≠ 0 then ([], tabErr t) else if isOrdB to 6 = true then (renM to t, 0) else ([], 1)
theorem CF21 {args : List AV} {r : AV} (hn : args.length ≤ 45) (h : vc Tryz.prog T [] A21 (FinF T [(.tmp 4), (.tmp 5)] r) ⟨envOf 0 args, []⟩) : CallP Tryz.prog 21 args r :=
  callPF_of tok mixed Tryz.func21 (by kernel_rfl) (by kernel_rfl) (by kernel_rfl : Tryz.f21.ntmps = 45) (by kernel_rfl : Tryz.f21.body.bind (strip 45 (fun _ => [])) = some A21) hn h
theorem Rename_c (t : List (List Int)) (to : List Int) (hs : Sm t) (ht : to.length ≤ 1000) : CallP Tryz.prog 21 [tabV t, ints to] (.tup [tabV (RenR t to).1, iv (RenR t to).2]) := by
  refine CF21 (by simp) ?_
  have c1 := Validate_c t hs
  have c2 := isOrder_c to 6 ht
  generalize hR : RenR t to = R
  unfold RenR at hR
  simp [A21]
  try simp 
  repeat' (first
    | (refine CallX.pure (c1) (by simp) (by simp) ?_; try simp )
    | (refine CallK.intro (c1) (by simp) (by simp) ?_; try simp )
    | (refine CallG.intro (fun _ => c1) (by simp) (by simp) ?_; try simp )
    | ((with_reducible refine PreK.intro ?_ ?_); (next => (first | omega | (intros; first | omega | (refine ⟨by omega, ?_⟩; repeat (first | assumption | constructor)) | assumption))); intro _; try simp )
    | fail)
  by_cases h1 : tabErr t = 0
  · rw [if_neg (by simpa using h1)] at hR
    try simp [h1]
    repeat (refine PreK.intro (by first | omega | (intros; first | omega | (refine ⟨by omega, ?_⟩; simp_all; done) | (simp_all; done) | (simp_all; omega))) fun _ => ?_; (try simp [h1]))
    refine CondK.ff ?_
    try simp 
    try simp 
    repeat (refine PreK.intro (by first | omega | (intros; first | omega | (refine ⟨by omega, ?_⟩; simp_all; done) | (simp_all; done) | (simp_all; omega))) fun _ => ?_; (try simp ))
    try simp 
    repeat' (first
      | (refine CallX.pure (c2) (by simp) (by simp) ?_; try simp )
      | (refine CallK.intro (c2) (by simp) (by simp) ?_; try simp )
      | (refine CallG.intro (fun _ => c2) (by simp) (by simp) ?_; try simp )
      | ((with_reducible refine PreK.intro ?_ ?_); (next => (first | omega | (intros; first | omega | (refine ⟨by omega, ?_⟩; repeat (first | assumption | constructor)) | assumption))); intro _; try simp )
      | fail)
    cases h2 : isOrdB to 6 with
    | false =>
      rw [h2, if_neg (by decide)] at hR
      subst hR
      try simp 
      repeat (refine PreK.intro (by first | omega | (intros; first | omega | (refine ⟨by omega, ?_⟩; simp_all; done) | (simp_all; done) | (simp_all; omega))) fun _ => ?_; (try simp ))
      refine CondK.tt ?_
      try simp 
      try simp 
      repeat (refine PreK.intro (by first | omega | (intros; first | omega | (refine ⟨by omega, ?_⟩; simp_all; done) | (simp_all; done) | (simp_all; omega))) fun _ => ?_; (try simp ))
      exact ⟨[], by simp⟩
    | true =>
      rw [h2, if_pos rfl] at hR
      subst hR
      try simp 
      repeat (refine PreK.intro (by first | omega | (intros; first | omega | (refine ⟨by omega, ?_⟩; simp_all; done) | (simp_all; done) | (simp_all; omega))) fun _ => ?_; (try simp ))
      refine CondK.ff ?_
      try simp 
      try simp 
      repeat (refine PreK.intro (by first | omega | (intros; first | omega | (refine ⟨by omega, ?_⟩; simp_all; done) | (simp_all; done) | (simp_all; omega))) fun _ => ?_; (try simp ))
      have hok := tabErr_zero.1 h1
      have hpos := hok.pos
      have hnum := hok.num
      have hor := isOrd_iff.1 (show isOrdB to ((6 : Nat) : Int) = true from h2)
      have hto := hor.len
      have hwl : ∀ j, j < t.length → 1 ≤ (el t j).length ∧ (el t j).length ≤ 1000 := by
        intro j hj
        have h3 := hok.row _ (el_mem_of t j hj)
        have h4 := hs.el j
        refine ⟨?_, by omega⟩
        cases h5 : el t j with
        | nil => exact absurd h5 h3
        | cons a l => simp
      have hval : ∀ j i, j < t.length → i < (el t j).length → ∃ x : Nat, el (el t j) i = (x : Int) ∧ x < to.length := by
        intro j i hj hi
        have h3 := hok.val (el (el t j) i) (List.mem_flatten.2 ⟨_, el_mem_of t j hj, el_mem_of _ i hi⟩)
        exact ⟨(el (el t j) i).toNat, by omega, by omega⟩
      have hrr := ren_rows t to
      have hcm := scopied_m t (by omega) (by omega) hwl
      have hn : t.length = 1 ∨ t.length = 2 ∨ t.length = 3 ∨ t.length = 4 ∨ t.length = 5 ∨ t.length = 6 := by omega
      rcases hn with hn | hn | hn | hn | hn | hn
      · rw [hn] at hcm hwl hval hrr
        simp only [rowN, rowM] at hcm
        refine CallX.mem 1000 hcm (by simp) (by simp [range_succ']) (by simp [range_succ']) ?_
        simp [range_succ']
        try simp 
        repeat (refine PreK.intro (by first | omega | (intros; first | omega | (refine ⟨by omega, ?_⟩; simp_all; done) | (simp_all; done) | (simp_all; omega))) fun _ => ?_; (try simp ))
        refine LoopK.by (ι := Nat) (fun k => ⟨[(24, iv k), (23, iv 1), (22, .sl 1003 2 0 1), (7, .sl 1003 2 0 1), (1, ints to)], (1003, some ⟨1, namR t 1, 2, true⟩) :: rowR t to 1 k⟩) (fun k => 1 - k) (fun k => k ≤ 1) 0 (Nat.zero_le _) (by simp [namR, rowR, range_succ', leEls_refl]) ?_
        intro k Q2 hk hq2 he2 hr2
        have hk6 : k = 0 ∨ k = 1 := by omega
        rcases hk6 with rfl | rfl
        · obtain ⟨hl1, hl2⟩ := hwl 0 (by omega)
          have hm0 := mixR_zero (renF to) (el t 0)
          simp [namR, rowR, range_succ']
          try simp 
          repeat (refine PreK.intro (by first | omega | (intros; first | omega | (refine ⟨by omega, ?_⟩; simp_all; done) | (simp_all; done) | (simp_all; omega))) fun _ => ?_; (try simp ))
          refine CondK.intro (fun h6 => ?_) (fun h6 => ?_)
          · try simp 
            repeat (refine PreK.intro (by first | omega | (intros; first | omega | (refine ⟨by omega, ?_⟩; simp_all; done) | (simp_all; done) | (simp_all; omega))) fun _ => ?_; (try simp ))
            refine LoopK.by (ι := Nat) (fun i => ⟨[(30, iv i), (29, iv (el t 0).length), (28, .sl 1100 1 0 (el t 0).length), (9, .sl 1100 1 0 (el t 0).length), (24, iv 0), (23, iv 1), (22, .sl 1003 2 0 1), (7, .sl 1003 2 0 1), (1, ints to)], (1003, some ⟨1, namR t 1, 2, true⟩) :: rowQ t to 1 0 i⟩) (fun i => (el t 0).length - i) (fun i => i ≤ (el t 0).length) 0 (Nat.zero_le _) (by simp [namR, rowQ, range_succ', hm0, leEls_refl]) ?_
            intro i Q4 hi hq4 he4 hr4
            have hml := mixR_len (renF to) (el t 0) i
            simp [namR, rowQ, range_succ']
            by_cases h7 : i < (el t 0).length
            · have h7' : (i : Int) < (el t 0).length := by omega
              obtain ⟨x, hx, hxl⟩ := hval 0 i (by omega) h7
              have hme := mixR_el (renF to) h7
              rw [hx] at hme
              have h7m : i < (mixR (renF to) (el t 0) i).length := by omega
              have hms : (List.map iv (mixR (renF to) (el t 0) i)).set i (AV.raw (.int .i64 (el to x))) = List.map iv (mixR (renF to) (el t 0) (i + 1)) := by
                rw [← mixR_set (renF to) h7, List.map_set, hx]; rfl
              try simp [h7, h7', h7m, hml, hme, hx, hxl, hms]
              repeat (refine PreK.intro (by first | omega | (intros; first | omega | (refine ⟨by omega, ?_⟩; simp_all; done) | (simp_all; done) | (simp_all; omega))) fun _ => ?_; (try simp [h7, h7', h7m, hml, hme, hx, hxl, hms]))
              refine CondK.tt ?_
              try simp 
              try simp [h7, h7', h7m, hml, hme, hx, hxl, hms]
              repeat (refine PreK.intro (by first | omega | (intros; first | omega | (refine ⟨by omega, ?_⟩; simp_all; done) | (simp_all; done) | (simp_all; omega))) fun _ => ?_; (try simp [h7, h7', h7m, hml, hme, hx, hxl, hms]))
              exact hq4 (i + 1) _ (by omega) (by omega) (by simp [namR, rowQ, range_succ', leEls_refl])
            · have h7' : ¬ (i : Int) < (el t 0).length := by omega
              have hie : i = (el t 0).length := by omega
              subst hie
              have hma := mixR_all (renF to) (el t 0)
              try simp 
              repeat (refine PreK.intro (by first | omega | (intros; first | omega | (refine ⟨by omega, ?_⟩; simp_all; done) | (simp_all; done) | (simp_all; omega))) fun _ => ?_; (try simp ))
              refine CondK.ff ?_
              try simp 
              apply he4
              try simp 
              repeat (refine PreK.intro (by first | omega | (intros; first | omega | (refine ⟨by omega, ?_⟩; simp_all; done) | (simp_all; done) | (simp_all; omega))) fun _ => ?_; (try simp ))
              exact hq2 1 _ (by omega) (by omega) (by simp [namR, rowR, range_succ', hma, leEls_refl])
          · simp at h6
        · simp [namR, rowR, range_succ']
          try simp 
          repeat (refine PreK.intro (by first | omega | (intros; first | omega | (refine ⟨by omega, ?_⟩; simp_all; done) | (simp_all; done) | (simp_all; omega))) fun _ => ?_; (try simp ))
          refine CondK.intro (fun h6 => ?_) (fun h6 => ?_)
          · simp at h6
          · apply he2
            try simp 
            repeat (refine PreK.intro (by first | omega | (intros; first | omega | (refine ⟨by omega, ?_⟩; simp_all; done) | (simp_all; done) | (simp_all; omega))) fun _ => ?_; (try simp ))
            refine ⟨[1100, 1003], ?_⟩
            have htk : ∀ (l : List Int) (f : Int → AV), List.take l.length (List.map f l) = List.map f l := fun l f => List.take_of_length_le (by simp)
            rw [hrr]
            simp [namR, rowR, range_succ', htk]
      · rw [hn] at hcm hwl hval hrr
        simp only [rowN, rowM] at hcm
        refine CallX.mem 1000 hcm (by simp) (by simp [range_succ']) (by simp [range_succ']) ?_
        simp [range_succ']
        try simp 
        repeat (refine PreK.intro (by first | omega | (intros; first | omega | (refine ⟨by omega, ?_⟩; simp_all; done) | (simp_all; done) | (simp_all; omega))) fun _ => ?_; (try simp ))
        refine LoopK.by (ι := Nat) (fun k => ⟨[(24, iv k), (23, iv 2), (22, .sl 1003 3 0 2), (7, .sl 1003 3 0 2), (1, ints to)], (1003, some ⟨1, namR t 2, 3, true⟩) :: rowR t to 2 k⟩) (fun k => 2 - k) (fun k => k ≤ 2) 0 (Nat.zero_le _) (by simp [namR, rowR, range_succ', leEls_refl]) ?_
        intro k Q2 hk hq2 he2 hr2
        have hk6 : k = 0 ∨ k = 1 ∨ k = 2 := by omega
        rcases hk6 with rfl | rfl | rfl
        · obtain ⟨hl1, hl2⟩ := hwl 0 (by omega)
          have hm0 := mixR_zero (renF to) (el t 0)
          simp [namR, rowR, range_succ']
          try simp 
          repeat (refine PreK.intro (by first | omega | (intros; first | omega | (refine ⟨by omega, ?_⟩; simp_all; done) | (simp_all; done) | (simp_all; omega))) fun _ => ?_; (try simp ))
          refine CondK.intro (fun h6 => ?_) (fun h6 => ?_)
          · try simp 
            repeat (refine PreK.intro (by first | omega | (intros; first | omega | (refine ⟨by omega, ?_⟩; simp_all; done) | (simp_all; done) | (simp_all; omega))) fun _ => ?_; (try simp ))
            refine LoopK.by (ι := Nat) (fun i => ⟨[(30, iv i), (29, iv (el t 0).length), (28, .sl 1100 1 0 (el t 0).length), (9, .sl 1100 1 0 (el t 0).length), (24, iv 0), (23, iv 2), (22, .sl 1003 3 0 2), (7, .sl 1003 3 0 2), (1, ints to)], (1003, some ⟨1, namR t 2, 3, true⟩) :: rowQ t to 2 0 i⟩) (fun i => (el t 0).length - i) (fun i => i ≤ (el t 0).length) 0 (Nat.zero_le _) (by simp [namR, rowQ, range_succ', hm0, leEls_refl]) ?_
            intro i Q4 hi hq4 he4 hr4
            have hml := mixR_len (renF to) (el t 0) i
            simp [namR, rowQ, range_succ']
            by_cases h7 : i < (el t 0).length
            · have h7' : (i : Int) < (el t 0).length := by omega
              obtain ⟨x, hx, hxl⟩ := hval 0 i (by omega) h7
              have hme := mixR_el (renF to) h7
              rw [hx] at hme
              have h7m : i < (mixR (renF to) (el t 0) i).length := by omega
              have hms : (List.map iv (mixR (renF to) (el t 0) i)).set i (AV.raw (.int .i64 (el to x))) = List.map iv (mixR (renF to) (el t 0) (i + 1)) := by
                rw [← mixR_set (renF to) h7, List.map_set, hx]; rfl
              try simp [h7, h7', h7m, hml, hme, hx, hxl, hms]
              repeat (refine PreK.intro (by first | omega | (intros; first | omega | (refine ⟨by omega, ?_⟩; simp_all; done) | (simp_all; done) | (simp_all; omega))) fun _ => ?_; (try simp [h7, h7', h7m, hml, hme, hx, hxl, hms]))
              refine CondK.tt ?_
              try simp 
              try simp [h7, h7', h7m, hml, hme, hx, hxl, hms]
              repeat (refine PreK.intro (by first | omega | (intros; first | omega | (refine ⟨by omega, ?_⟩; simp_all; done) | (simp_all; done) | (simp_all; omega))) fun _ => ?_; (try simp [h7, h7', h7m, hml, hme, hx, hxl, hms]))
              exact hq4 (i + 1) _ (by omega) (by omega) (by simp [namR, rowQ, range_succ', leEls_refl])
            · have h7' : ¬ (i : Int) < (el t 0).length := by omega
              have hie : i = (el t 0).length := by omega
              subst hie
              have hma := mixR_all (renF to) (el t 0)
              try simp 
              repeat (refine PreK.intro (by first | omega | (intros; first | omega | (refine ⟨by omega, ?_⟩; simp_all; done) | (simp_all; done) | (simp_all; omega))) fun _ => ?_; (try simp ))
              refine CondK.ff ?_
              try simp 
              apply he4
              try simp 
              repeat (refine PreK.intro (by first | omega | (intros; first | omega | (refine ⟨by omega, ?_⟩; simp_all; done) | (simp_all; done) | (simp_all; omega))) fun _ => ?_; (try simp ))
              exact hq2 1 _ (by omega) (by omega) (by simp [namR, rowR, range_succ', hma, leEls_refl])
          · simp at h6
        · obtain ⟨hl1, hl2⟩ := hwl 1 (by omega)
          have hm0 := mixR_zero (renF to) (el t 1)
          simp [namR, rowR, range_succ']
          try simp 
          repeat (refine PreK.intro (by first | omega | (intros; first | omega | (refine ⟨by omega, ?_⟩; simp_all; done) | (simp_all; done) | (simp_all; omega))) fun _ => ?_; (try simp ))
          refine CondK.intro (fun h6 => ?_) (fun h6 => ?_)
          · try simp 
            repeat (refine PreK.intro (by first | omega | (intros; first | omega | (refine ⟨by omega, ?_⟩; simp_all; done) | (simp_all; done) | (simp_all; omega))) fun _ => ?_; (try simp ))
            refine LoopK.by (ι := Nat) (fun i => ⟨[(30, iv i), (29, iv (el t 1).length), (28, .sl 1101 1 0 (el t 1).length), (9, .sl 1101 1 0 (el t 1).length), (24, iv 1), (23, iv 2), (22, .sl 1003 3 0 2), (7, .sl 1003 3 0 2), (1, ints to)], (1003, some ⟨1, namR t 2, 3, true⟩) :: rowQ t to 2 1 i⟩) (fun i => (el t 1).length - i) (fun i => i ≤ (el t 1).length) 0 (Nat.zero_le _) (by simp [namR, rowQ, range_succ', hm0, leEls_refl]) ?_
            intro i Q4 hi hq4 he4 hr4
            have hml := mixR_len (renF to) (el t 1) i
            simp [namR, rowQ, range_succ']
            by_cases h7 : i < (el t 1).length
            · have h7' : (i : Int) < (el t 1).length := by omega
              obtain ⟨x, hx, hxl⟩ := hval 1 i (by omega) h7
              have hme := mixR_el (renF to) h7
              rw [hx] at hme
              have h7m : i < (mixR (renF to) (el t 1) i).length := by omega
              have hms : (List.map iv (mixR (renF to) (el t 1) i)).set i (AV.raw (.int .i64 (el to x))) = List.map iv (mixR (renF to) (el t 1) (i + 1)) := by
                rw [← mixR_set (renF to) h7, List.map_set, hx]; rfl
              try simp [h7, h7', h7m, hml, hme, hx, hxl, hms]
              repeat (refine PreK.intro (by first | omega | (intros; first | omega | (refine ⟨by omega, ?_⟩; simp_all; done) | (simp_all; done) | (simp_all; omega))) fun _ => ?_; (try simp [h7, h7', h7m, hml, hme, hx, hxl, hms]))
              refine CondK.tt ?_
              try simp 
              try simp [h7, h7', h7m, hml, hme, hx, hxl, hms]
              repeat (refine PreK.intro (by first | omega | (intros; first | omega | (refine ⟨by omega, ?_⟩; simp_all; done) | (simp_all; done) | (simp_all; omega))) fun _ => ?_; (try simp [h7, h7', h7m, hml, hme, hx, hxl, hms]))
              exact hq4 (i + 1) _ (by omega) (by omega) (by simp [namR, rowQ, range_succ', leEls_refl])
            · have h7' : ¬ (i : Int) < (el t 1).length := by omega
              have hie : i = (el t 1).length := by omega
              subst hie
              have hma := mixR_all (renF to) (el t 1)
              try simp 
              repeat (refine PreK.intro (by first | omega | (intros; first | omega | (refine ⟨by omega, ?_⟩; simp_all; done) | (simp_all; done) | (simp_all; omega))) fun _ => ?_; (try simp ))
              refine CondK.ff ?_
              try simp 
              apply he4
              try simp 
              repeat (refine PreK.intro (by first | omega | (intros; first | omega | (refine ⟨by omega, ?_⟩; simp_all; done) | (simp_all; done) | (simp_all; omega))) fun _ => ?_; (try simp ))
              exact hq2 2 _ (by omega) (by omega) (by simp [namR, rowR, range_succ', hma, leEls_refl])
          · simp at h6
        · simp [namR, rowR, range_succ']
          try simp 
          repeat (refine PreK.intro (by first | omega | (intros; first | omega | (refine ⟨by omega, ?_⟩; simp_all; done) | (simp_all; done) | (simp_all; omega))) fun _ => ?_; (try simp ))
          refine CondK.intro (fun h6 => ?_) (fun h6 => ?_)
          · simp at h6
          · apply he2
            try simp 
            repeat (refine PreK.intro (by first | omega | (intros; first | omega | (refine ⟨by omega, ?_⟩; simp_all; done) | (simp_all; done) | (simp_all; omega))) fun _ => ?_; (try simp ))
            refine ⟨[1100, 1101, 1003], ?_⟩
            have htk : ∀ (l : List Int) (f : Int → AV), List.take l.length (List.map f l) = List.map f l := fun l f => List.take_of_length_le (by simp)
            rw [hrr]
            simp [namR, rowR, range_succ', htk]
      · rw [hn] at hcm hwl hval hrr
        simp only [rowN, rowM] at hcm
        refine CallX.mem 1000 hcm (by simp) (by simp [range_succ']) (by simp [range_succ']) ?_
        simp [range_succ']
        try simp 
        repeat (refine PreK.intro (by first | omega | (intros; first | omega | (refine ⟨by omega, ?_⟩; simp_all; done) | (simp_all; done) | (simp_all; omega))) fun _ => ?_; (try simp ))
        refine LoopK.by (ι := Nat) (fun k => ⟨[(24, iv k), (23, iv 3), (22, .sl 1003 4 0 3), (7, .sl 1003 4 0 3), (1, ints to)], (1003, some ⟨1, namR t 3, 4, true⟩) :: rowR t to 3 k⟩) (fun k => 3 - k) (fun k => k ≤ 3) 0 (Nat.zero_le _) (by simp [namR, rowR, range_succ', leEls_refl]) ?_
        intro k Q2 hk hq2 he2 hr2
        have hk6 : k = 0 ∨ k = 1 ∨ k = 2 ∨ k = 3 := by omega
        rcases hk6 with rfl | rfl | rfl | rfl
        · obtain ⟨hl1, hl2⟩ := hwl 0 (by omega)
          have hm0 := mixR_zero (renF to) (el t 0)
          simp [namR, rowR, range_succ']
          try simp 
          repeat (refine PreK.intro (by first | omega | (intros; first | omega | (refine ⟨by omega, ?_⟩; simp_all; done) | (simp_all; done) | (simp_all; omega))) fun _ => ?_; (try simp ))
          refine CondK.intro (fun h6 => ?_) (fun h6 => ?_)
          · try simp 
            repeat (refine PreK.intro (by first | omega | (intros; first | omega | (refine ⟨by omega, ?_⟩; simp_all; done) | (simp_all; done) | (simp_all; omega))) fun _ => ?_; (try simp ))
            refine LoopK.by (ι := Nat) (fun i => ⟨[(30, iv i), (29, iv (el t 0).length), (28, .sl 1100 1 0 (el t 0).length), (9, .sl 1100 1 0 (el t 0).length), (24, iv 0), (23, iv 3), (22, .sl 1003 4 0 3), (7, .sl 1003 4 0 3), (1, ints to)], (1003, some ⟨1, namR t 3, 4, true⟩) :: rowQ t to 3 0 i⟩) (fun i => (el t 0).length - i) (fun i => i ≤ (el t 0).length) 0 (Nat.zero_le _) (by simp [namR, rowQ, range_succ', hm0, leEls_refl]) ?_
            intro i Q4 hi hq4 he4 hr4
            have hml := mixR_len (renF to) (el t 0) i
            simp [namR, rowQ, range_succ']
            by_cases h7 : i < (el t 0).length
            · have h7' : (i : Int) < (el t 0).length := by omega
              obtain ⟨x, hx, hxl⟩ := hval 0 i (by omega) h7
              have hme := mixR_el (renF to) h7
              rw [hx] at hme
              have h7m : i < (mixR (renF to) (el t 0) i).length := by omega
              have hms : (List.map iv (mixR (renF to) (el t 0) i)).set i (AV.raw (.int .i64 (el to x))) = List.map iv (mixR (renF to) (el t 0) (i + 1)) := by
                rw [← mixR_set (renF to) h7, List.map_set, hx]; rfl
              try simp [h7, h7', h7m, hml, hme, hx, hxl, hms]
              repeat (refine PreK.intro (by first | omega | (intros; first | omega | (refine ⟨by omega, ?_⟩; simp_all; done) | (simp_all; done) | (simp_all; omega))) fun _ => ?_; (try simp [h7, h7', h7m, hml, hme, hx, hxl, hms]))
              refine CondK.tt ?_
              try simp 
              try simp [h7, h7', h7m, hml, hme, hx, hxl, hms]
              repeat (refine PreK.intro (by first | omega | (intros; first | omega | (refine ⟨by omega, ?_⟩; simp_all; done) | (simp_all; done) | (simp_all; omega))) fun _ => ?_; (try simp [h7, h7', h7m, hml, hme, hx, hxl, hms]))
              exact hq4 (i + 1) _ (by omega) (by omega) (by simp [namR, rowQ, range_succ', leEls_refl])
            · have h7' : ¬ (i : Int) < (el t 0).length := by omega
              have hie : i = (el t 0).length := by omega
              subst hie
              have hma := mixR_all (renF to) (el t 0)
              try simp 
              repeat (refine PreK.intro (by first | omega | (intros; first | omega | (refine ⟨by omega, ?_⟩; simp_all; done) | (simp_all; done) | (simp_all; omega))) fun _ => ?_; (try simp ))
              refine CondK.ff ?_
              try simp 
              apply he4
              try simp 
              repeat (refine PreK.intro (by first | omega | (intros; first | omega | (refine ⟨by omega, ?_⟩; simp_all; done) | (simp_all; done) | (simp_all; omega))) fun _ => ?_; (try simp ))
              exact hq2 1 _ (by omega) (by omega) (by simp [namR, rowR, range_succ', hma, leEls_refl])
          · simp at h6
        · obtain ⟨hl1, hl2⟩ := hwl 1 (by omega)
          have hm0 := mixR_zero (renF to) (el t 1)
          simp [namR, rowR, range_succ']
          try simp 
          repeat (refine PreK.intro (by first | omega | (intros; first | omega | (refine ⟨by omega, ?_⟩; simp_all; done) | (simp_all; done) | (simp_all; omega))) fun _ => ?_; (try simp ))
          refine CondK.intro (fun h6 => ?_) (fun h6 => ?_)
          · try simp 
            repeat (refine PreK.intro (by first | omega | (intros; first | omega | (refine ⟨by omega, ?_⟩; simp_all; done) | (simp_all; done) | (simp_all; omega))) fun _ => ?_; (try simp ))
            refine LoopK.by (ι := Nat) (fun i => ⟨[(30, iv i), (29, iv (el t 1).length), (28, .sl 1101 1 0 (el t 1).length), (9, .sl 1101 1 0 (el t 1).length), (24, iv 1), (23, iv 3), (22, .sl 1003 4 0 3), (7, .sl 1003 4 0 3), (1, ints to)], (1003, some ⟨1, namR t 3, 4, true⟩) :: rowQ t to 3 1 i⟩) (fun i => (el t 1).length - i) (fun i => i ≤ (el t 1).length) 0 (Nat.zero_le _) (by simp [namR, rowQ, range_succ', hm0, leEls_refl]) ?_
            intro i Q4 hi hq4 he4 hr4
            have hml := mixR_len (renF to) (el t 1) i
            simp [namR, rowQ, range_succ']
            by_cases h7 : i < (el t 1).length
            · have h7' : (i : Int) < (el t 1).length := by omega
              obtain ⟨x, hx, hxl⟩ := hval 1 i (by omega) h7
              have hme := mixR_el (renF to) h7
              rw [hx] at hme
              have h7m : i < (mixR (renF to) (el t 1) i).length := by omega
              have hms : (List.map iv (mixR (renF to) (el t 1) i)).set i (AV.raw (.int .i64 (el to x))) = List.map iv (mixR (renF to) (el t 1) (i + 1)) := by
                rw [← mixR_set (renF to) h7, List.map_set, hx]; rfl
              try simp [h7, h7', h7m, hml, hme, hx, hxl, hms]
              repeat (refine PreK.intro (by first | omega | (intros; first | omega | (refine ⟨by omega, ?_⟩; simp_all; done) | (simp_all; done) | (simp_all; omega))) fun _ => ?_; (try simp [h7, h7', h7m, hml, hme, hx, hxl, hms]))
              refine CondK.tt ?_
              try simp 
              try simp [h7, h7', h7m, hml, hme, hx, hxl, hms]
              repeat (refine PreK.intro (by first | omega | (intros; first | omega | (refine ⟨by omega, ?_⟩; simp_all; done) | (simp_all; done) | (simp_all; omega))) fun _ => ?_; (try simp [h7, h7', h7m, hml, hme, hx, hxl, hms]))
              exact hq4 (i + 1) _ (by omega) (by omega) (by simp [namR, rowQ, range_succ', leEls_refl])
            · have h7' : ¬ (i : Int) < (el t 1).length := by omega
              have hie : i = (el t 1).length := by omega
              subst hie
              have hma := mixR_all (renF to) (el t 1)
              try simp 
              repeat (refine PreK.intro (by first | omega | (intros; first | omega | (refine ⟨by omega, ?_⟩; simp_all; done) | (simp_all; done) | (simp_all; omega))) fun _ => ?_; (try simp ))
              refine CondK.ff ?_
              try simp 
              apply he4
              try simp 
              repeat (refine PreK.intro (by first | omega | (intros; first | omega | (refine ⟨by omega, ?_⟩; simp_all; done) | (simp_all; done) | (simp_all; omega))) fun _ => ?_; (try simp ))
              exact hq2 2 _ (by omega) (by omega) (by simp [namR, rowR, range_succ', hma, leEls_refl])
          · simp at h6
        · obtain ⟨hl1, hl2⟩ := hwl 2 (by omega)
          have hm0 := mixR_zero (renF to) (el t 2)
          simp [namR, rowR, range_succ']
          try simp 
          repeat (refine PreK.intro (by first | omega | (intros; first | omega | (refine ⟨by omega, ?_⟩; simp_all; done) | (simp_all; done) | (simp_all; omega))) fun _ => ?_; (try simp ))
          refine CondK.intro (fun h6 => ?_) (fun h6 => ?_)
          · try simp 
            repeat (refine PreK.intro (by first | omega | (intros; first | omega | (refine ⟨by omega, ?_⟩; simp_all; done) | (simp_all; done) | (simp_all; omega))) fun _ => ?_; (try simp ))
            refine LoopK.by (ι := Nat) (fun i => ⟨[(30, iv i), (29, iv (el t 2).length), (28, .sl 1102 1 0 (el t 2).length), (9, .sl 1102 1 0 (el t 2).length), (24, iv 2), (23, iv 3), (22, .sl 1003 4 0 3), (7, .sl 1003 4 0 3), (1, ints to)], (1003, some ⟨1, namR t 3, 4, true⟩) :: rowQ t to 3 2 i⟩) (fun i => (el t 2).length - i) (fun i => i ≤ (el t 2).length) 0 (Nat.zero_le _) (by simp [namR, rowQ, range_succ', hm0, leEls_refl]) ?_
            intro i Q4 hi hq4 he4 hr4
            have hml := mixR_len (renF to) (el t 2) i
            simp [namR, rowQ, range_succ']
            by_cases h7 : i < (el t 2).length
            · have h7' : (i : Int) < (el t 2).length := by omega
              obtain ⟨x, hx, hxl⟩ := hval 2 i (by omega) h7
              have hme := mixR_el (renF to) h7
              rw [hx] at hme
              have h7m : i < (mixR (renF to) (el t 2) i).length := by omega
              have hms : (List.map iv (mixR (renF to) (el t 2) i)).set i (AV.raw (.int .i64 (el to x))) = List.map iv (mixR (renF to) (el t 2) (i + 1)) := by
                rw [← mixR_set (renF to) h7, List.map_set, hx]; rfl
              try simp [h7, h7', h7m, hml, hme, hx, hxl, hms]
              repeat (refine PreK.intro (by first | omega | (intros; first | omega | (refine ⟨by omega, ?_⟩; simp_all; done) | (simp_all; done) | (simp_all; omega))) fun _ => ?_; (try simp [h7, h7', h7m, hml, hme, hx, hxl, hms]))
              refine CondK.tt ?_
              try simp 
              try simp [h7, h7', h7m, hml, hme, hx, hxl, hms]
              repeat (refine PreK.intro (by first | omega | (intros; first | omega | (refine ⟨by omega, ?_⟩; simp_all; done) | (simp_all; done) | (simp_all; omega))) fun _ => ?_; (try simp [h7, h7', h7m, hml, hme, hx, hxl, hms]))
              exact hq4 (i + 1) _ (by omega) (by omega) (by simp [namR, rowQ, range_succ', leEls_refl])
            · have h7' : ¬ (i : Int) < (el t 2).length := by omega
              have hie : i = (el t 2).length := by omega
              subst hie
              have hma := mixR_all (renF to) (el t 2)
              try simp 
              repeat (refine PreK.intro (by first | omega | (intros; first | omega | (refine ⟨by omega, ?_⟩; simp_all; done) | (simp_all; done) | (simp_all; omega))) fun _ => ?_; (try simp ))
              refine CondK.ff ?_
              try simp 
              apply he4
              try simp 
              repeat (refine PreK.intro (by first | omega | (intros; first | omega | (refine ⟨by omega, ?_⟩; simp_all; done) | (simp_all; done) | (simp_all; omega))) fun _ => ?_; (try simp ))
              exact hq2 3 _ (by omega) (by omega) (by simp [namR, rowR, range_succ', hma, leEls_refl])
          · simp at h6
        · simp [namR, rowR, range_succ']
          try simp 
          repeat (refine PreK.intro (by first | omega | (intros; first | omega | (refine ⟨by omega, ?_⟩; simp_all; done) | (simp_all; done) | (simp_all; omega))) fun _ => ?_; (try simp ))
          refine CondK.intro (fun h6 => ?_) (fun h6 => ?_)
          · simp at h6
          · apply he2
            try simp 
            repeat (refine PreK.intro (by first | omega | (intros; first | omega | (refine ⟨by omega, ?_⟩; simp_all; done) | (simp_all; done) | (simp_all; omega))) fun _ => ?_; (try simp ))
            refine ⟨[1100, 1101, 1102, 1003], ?_⟩
            have htk : ∀ (l : List Int) (f : Int → AV), List.take l.length (List.map f l) = List.map f l := fun l f => List.take_of_length_le (by simp)
            rw [hrr]
            simp [namR, rowR, range_succ', htk]
      · rw [hn] at hcm hwl hval hrr
        simp only [rowN, rowM] at hcm
        refine CallX.mem 1000 hcm (by simp) (by simp [range_succ']) (by simp [range_succ']) ?_
        simp [range_succ']
        try simp 
        repeat (refine PreK.intro (by first | omega | (intros; first | omega | (refine ⟨by omega, ?_⟩; simp_all; done) | (simp_all; done) | (simp_all; omega))) fun _ => ?_; (try simp ))
        refine LoopK.by (ι := Nat) (fun k => ⟨[(24, iv k), (23, iv 4), (22, .sl 1003 5 0 4), (7, .sl 1003 5 0 4), (1, ints to)], (1003, some ⟨1, namR t 4, 5, true⟩) :: rowR t to 4 k⟩) (fun k => 4 - k) (fun k => k ≤ 4) 0 (Nat.zero_le _) (by simp [namR, rowR, range_succ', leEls_refl]) ?_
        intro k Q2 hk hq2 he2 hr2
        have hk6 : k = 0 ∨ k = 1 ∨ k = 2 ∨ k = 3 ∨ k = 4 := by omega
        rcases hk6 with rfl | rfl | rfl | rfl | rfl
        · obtain ⟨hl1, hl2⟩ := hwl 0 (by omega)
          have hm0 := mixR_zero (renF to) (el t 0)
          simp [namR, rowR, range_succ']
          try simp 
          repeat (refine PreK.intro (by first | omega | (intros; first | omega | (refine ⟨by omega, ?_⟩; simp_all; done) | (simp_all; done) | (simp_all; omega))) fun _ => ?_; (try simp ))
          refine CondK.intro (fun h6 => ?_) (fun h6 => ?_)
          · try simp 
            repeat (refine PreK.intro (by first | omega | (intros; first | omega | (refine ⟨by omega, ?_⟩; simp_all; done) | (simp_all; done) | (simp_all; omega))) fun _ => ?_; (try simp ))
            refine LoopK.by (ι := Nat) (fun i => ⟨[(30, iv i), (29, iv (el t 0).length), (28, .sl 1100 1 0 (el t 0).length), (9, .sl 1100 1 0 (el t 0).length), (24, iv 0), (23, iv 4), (22, .sl 1003 5 0 4), (7, .sl 1003 5 0 4), (1, ints to)], (1003, some ⟨1, namR t 4, 5, true⟩) :: rowQ t to 4 0 i⟩) (fun i => (el t 0).length - i) (fun i => i ≤ (el t 0).length) 0 (Nat.zero_le _) (by simp [namR, rowQ, range_succ', hm0, leEls_refl]) ?_
            intro i Q4 hi hq4 he4 hr4
            have hml := mixR_len (renF to) (el t 0) i
            simp [namR, rowQ, range_succ']
            by_cases h7 : i < (el t 0).length
            · have h7' : (i : Int) < (el t 0).length := by omega
              obtain ⟨x, hx, hxl⟩ := hval 0 i (by omega) h7
              have hme := mixR_el (renF to) h7
              rw [hx] at hme
              have h7m : i < (mixR (renF to) (el t 0) i).length := by omega
              have hms : (List.map iv (mixR (renF to) (el t 0) i)).set i (AV.raw (.int .i64 (el to x))) = List.map iv (mixR (renF to) (el t 0) (i + 1)) := by
                rw [← mixR_set (renF to) h7, List.map_set, hx]; rfl
              try simp [h7, h7', h7m, hml, hme, hx, hxl, hms]
              repeat (refine PreK.intro (by first | omega | (intros; first | omega | (refine ⟨by omega, ?_⟩; simp_all; done) | (simp_all; done) | (simp_all; omega))) fun _ => ?_; (try simp [h7, h7', h7m, hml, hme, hx, hxl, hms]))
              refine CondK.tt ?_
              try simp 
              try simp [h7, h7', h7m, hml, hme, hx, hxl, hms]
              repeat (refine PreK.intro (by first | omega | (intros; first | omega | (refine ⟨by omega, ?_⟩; simp_all; done) | (simp_all; done) | (simp_all; omega))) fun _ => ?_; (try simp [h7, h7', h7m, hml, hme, hx, hxl, hms]))
              exact hq4 (i + 1) _ (by omega) (by omega) (by simp [namR, rowQ, range_succ', leEls_refl])
            · have h7' : ¬ (i : Int) < (el t 0).length := by omega
              have hie : i = (el t 0).length := by omega
              subst hie
              have hma := mixR_all (renF to) (el t 0)
              try simp 
              repeat (refine PreK.intro (by first | omega | (intros; first | omega | (refine ⟨by omega, ?_⟩; simp_all; done) | (simp_all; done) | (simp_all; omega))) fun _ => ?_; (try simp ))
              refine CondK.ff ?_
              try simp 
              apply he4
              try simp 
              repeat (refine PreK.intro (by first | omega | (intros; first | omega | (refine ⟨by omega, ?_⟩; simp_all; done) | (simp_all; done) | (simp_all; omega))) fun _ => ?_; (try simp ))
              exact hq2 1 _ (by omega) (by omega) (by simp [namR, rowR, range_succ', hma, leEls_refl])
          · simp at h6
        · obtain ⟨hl1, hl2⟩ := hwl 1 (by omega)
          have hm0 := mixR_zero (renF to) (el t 1)
          simp [namR, rowR, range_succ']
          try simp 
          repeat (refine PreK.intro (by first | omega | (intros; first | omega | (refine ⟨by omega, ?_⟩; simp_all; done) | (simp_all; done) | (simp_all; omega))) fun _ => ?_; (try simp ))
          refine CondK.intro (fun h6 => ?_) (fun h6 => ?_)
          · try simp 
            repeat (refine PreK.intro (by first | omega | (intros; first | omega | (refine ⟨by omega, ?_⟩; simp_all; done) | (simp_all; done) | (simp_all; omega))) fun _ => ?_; (try simp ))
            refine LoopK.by (ι := Nat) (fun i => ⟨[(30, iv i), (29, iv (el t 1).length), (28, .sl 1101 1 0 (el t 1).length), (9, .sl 1101 1 0 (el t 1).length), (24, iv 1), (23, iv 4), (22, .sl 1003 5 0 4), (7, .sl 1003 5 0 4), (1, ints to)], (1003, some ⟨1, namR t 4, 5, true⟩) :: rowQ t to 4 1 i⟩) (fun i => (el t 1).length - i) (fun i => i ≤ (el t 1).length) 0 (Nat.zero_le _) (by simp [namR, rowQ, range_succ', hm0, leEls_refl]) ?_
            intro i Q4 hi hq4 he4 hr4
            have hml := mixR_len (renF to) (el t 1) i
            simp [namR, rowQ, range_succ']
            by_cases h7 : i < (el t 1).length
            · have h7' : (i : Int) < (el t 1).length := by omega
              obtain ⟨x, hx, hxl⟩ := hval 1 i (by omega) h7
              have hme := mixR_el (renF to) h7
              rw [hx] at hme
              have h7m : i < (mixR (renF to) (el t 1) i).length := by omega
              have hms : (List.map iv (mixR (renF to) (el t 1) i)).set i (AV.raw (.int .i64 (el to x))) = List.map iv (mixR (renF to) (el t 1) (i + 1)) := by
                rw [← mixR_set (renF to) h7, List.map_set, hx]; rfl
              try simp [h7, h7', h7m, hml, hme, hx, hxl, hms]
              repeat (refine PreK.intro (by first | omega | (intros; first | omega | (refine ⟨by omega, ?_⟩; simp_all; done) | (simp_all; done) | (simp_all; omega))) fun _ => ?_; (try simp [h7, h7', h7m, hml, hme, hx, hxl, hms]))
              refine CondK.tt ?_
              try simp 
              try simp [h7, h7', h7m, hml, hme, hx, hxl, hms]
              repeat (refine PreK.intro (by first | omega | (intros; first | omega | (refine ⟨by omega, ?_⟩; simp_all; done) | (simp_all; done) | (simp_all; omega))) fun _ => ?_; (try simp [h7, h7', h7m, hml, hme, hx, hxl, hms]))
              exact hq4 (i + 1) _ (by omega) (by omega) (by simp [namR, rowQ, range_succ', leEls_refl])
            · have h7' : ¬ (i : Int) < (el t 1).length := by omega
              have hie : i = (el t 1).length := by omega
              subst hie
              have hma := mixR_all (renF to) (el t 1)
              try simp 
              repeat (refine PreK.intro (by first | omega | (intros; first | omega | (refine ⟨by omega, ?_⟩; simp_all; done) | (simp_all; done) | (simp_all; omega))) fun _ => ?_; (try simp ))
              refine CondK.ff ?_
              try simp 
              apply he4
              try simp 
              repeat (refine PreK.intro (by first | omega | (intros; first | omega | (refine ⟨by omega, ?_⟩; simp_all; done) | (simp_all; done) | (simp_all; omega))) fun _ => ?_; (try simp ))
              exact hq2 2 _ (by omega) (by omega) (by simp [namR, rowR, range_succ', hma, leEls_refl])
          · simp at h6
        · obtain ⟨hl1, hl2⟩ := hwl 2 (by omega)
          have hm0 := mixR_zero (renF to) (el t 2)
          simp [namR, rowR, range_succ']
          try simp 
          repeat (refine PreK.intro (by first | omega | (intros; first | omega | (refine ⟨by omega, ?_⟩; simp_all; done) | (simp_all; done) | (simp_all; omega))) fun _ => ?_; (try simp ))
          refine CondK.intro (fun h6 => ?_) (fun h6 => ?_)
          · try simp 
            repeat (refine PreK.intro (by first | omega | (intros; first | omega | (refine ⟨by omega, ?_⟩; simp_all; done) | (simp_all; done) | (simp_all; omega))) fun _ => ?_; (try simp ))
            refine LoopK.by (ι := Nat) (fun i => ⟨[(30, iv i), (29, iv (el t 2).length), (28, .sl 1102 1 0 (el t 2).length), (9, .sl 1102 1 0 (el t 2).length), (24, iv 2), (23, iv 4), (22, .sl 1003 5 0 4), (7, .sl 1003 5 0 4), (1, ints to)], (1003, some ⟨1, namR t 4, 5, true⟩) :: rowQ t to 4 2 i⟩) (fun i => (el t 2).length - i) (fun i => i ≤ (el t 2).length) 0 (Nat.zero_le _) (by simp [namR, rowQ, range_succ', hm0, leEls_refl]) ?_
            intro i Q4 hi hq4 he4 hr4
            have hml := mixR_len (renF to) (el t 2) i
            simp [namR, rowQ, range_succ']
            by_cases h7 : i < (el t 2).length
            · have h7' : (i : Int) < (el t 2).length := by omega
              obtain ⟨x, hx, hxl⟩ := hval 2 i (by omega) h7
              have hme := mixR_el (renF to) h7
              rw [hx] at hme
              have h7m : i < (mixR (renF to) (el t 2) i).length := by omega
              have hms : (List.map iv (mixR (renF to) (el t 2) i)).set i (AV.raw (.int .i64 (el to x))) = List.map iv (mixR (renF to) (el t 2) (i + 1)) := by
                rw [← mixR_set (renF to) h7, List.map_set, hx]; rfl
              try simp [h7, h7', h7m, hml, hme, hx, hxl, hms]
              repeat (refine PreK.intro (by first | omega | (intros; first | omega | (refine ⟨by omega, ?_⟩; simp_all; done) | (simp_all; done) | (simp_all; omega))) fun _ => ?_; (try simp [h7, h7', h7m, hml, hme, hx, hxl, hms]))
              refine CondK.tt ?_
              try simp 
              try simp [h7, h7', h7m, hml, hme, hx, hxl, hms]
              repeat (refine PreK.intro (by first | omega | (intros; first | omega | (refine ⟨by omega, ?_⟩; simp_all; done) | (simp_all; done) | (simp_all; omega))) fun _ => ?_; (try simp [h7, h7', h7m, hml, hme, hx, hxl, hms]))
              exact hq4 (i + 1) _ (by omega) (by omega) (by simp [namR, rowQ, range_succ', leEls_refl])
            · have h7' : ¬ (i : Int) < (el t 2).length := by omega
              have hie : i = (el t 2).length := by omega
              subst hie
              have hma := mixR_all (renF to) (el t 2)
              try simp 
              repeat (refine PreK.intro (by first | omega | (intros; first | omega | (refine ⟨by omega, ?_⟩; simp_all; done) | (simp_all; done) | (simp_all; omega))) fun _ => ?_; (try simp ))
              refine CondK.ff ?_
              try simp 
              apply he4
              try simp 
              repeat (refine PreK.intro (by first | omega | (intros; first | omega | (refine ⟨by omega, ?_⟩; simp_all; done) | (simp_all; done) | (simp_all; omega))) fun _ => ?_; (try simp ))
              exact hq2 3 _ (by omega) (by omega) (by simp [namR, rowR, range_succ', hma, leEls_refl])
          · simp at h6
        · obtain ⟨hl1, hl2⟩ := hwl 3 (by omega)
          have hm0 := mixR_zero (renF to) (el t 3)
          simp [namR, rowR, range_succ']
          try simp 
          repeat (refine PreK.intro (by first | omega | (intros; first | omega | (refine ⟨by omega, ?_⟩; simp_all; done) | (simp_all; done) | (simp_all; omega))) fun _ => ?_; (try simp ))
          refine CondK.intro (fun h6 => ?_) (fun h6 => ?_)
          · try simp 
            repeat (refine PreK.intro (by first | omega | (intros; first | omega | (refine ⟨by omega, ?_⟩; simp_all; done) | (simp_all; done) | (simp_all; omega))) fun _ => ?_; (try simp ))
            refine LoopK.by (ι := Nat) (fun i => ⟨[(30, iv i), (29, iv (el t 3).length), (28, .sl 1103 1 0 (el t 3).length), (9, .sl 1103 1 0 (el t 3).length), (24, iv 3), (23, iv 4), (22, .sl 1003 5 0 4), (7, .sl 1003 5 0 4), (1, ints to)], (1003, some ⟨1, namR t 4, 5, true⟩) :: rowQ t to 4 3 i⟩) (fun i => (el t 3).length - i) (fun i => i ≤ (el t 3).length) 0 (Nat.zero_le _) (by simp [namR, rowQ, range_succ', hm0, leEls_refl]) ?_
            intro i Q4 hi hq4 he4 hr4
            have hml := mixR_len (renF to) (el t 3) i
            simp [namR, rowQ, range_succ']
            by_cases h7 : i < (el t 3).length
            · have h7' : (i : Int) < (el t 3).length := by omega
              obtain ⟨x, hx, hxl⟩ := hval 3 i (by omega) h7
              have hme := mixR_el (renF to) h7
              rw [hx] at hme
              have h7m : i < (mixR (renF to) (el t 3) i).length := by omega
              have hms : (List.map iv (mixR (renF to) (el t 3) i)).set i (AV.raw (.int .i64 (el to x))) = List.map iv (mixR (renF to) (el t 3) (i + 1)) := by
                rw [← mixR_set (renF to) h7, List.map_set, hx]; rfl
              try simp [h7, h7', h7m, hml, hme, hx, hxl, hms]
              repeat (refine PreK.intro (by first | omega | (intros; first | omega | (refine ⟨by omega, ?_⟩; simp_all; done) | (simp_all; done) | (simp_all; omega))) fun _ => ?_; (try simp [h7, h7', h7m, hml, hme, hx, hxl, hms]))
              refine CondK.tt ?_
              try simp 
              try simp [h7, h7', h7m, hml, hme, hx, hxl, hms]
              repeat (refine PreK.intro (by first | omega | (intros; first | omega | (refine ⟨by omega, ?_⟩; simp_all; done) | (simp_all; done) | (simp_all; omega))) fun _ => ?_; (try simp [h7, h7', h7m, hml, hme, hx, hxl, hms]))
              exact hq4 (i + 1) _ (by omega) (by omega) (by simp [namR, rowQ, range_succ', leEls_refl])
            · have h7' : ¬ (i : Int) < (el t 3).length := by omega
              have hie : i = (el t 3).length := by omega
              subst hie
              have hma := mixR_all (renF to) (el t 3)
              try simp 
              repeat (refine PreK.intro (by first | omega | (intros; first | omega | (refine ⟨by omega, ?_⟩; simp_all; done) | (simp_all; done) | (simp_all; omega))) fun _ => ?_; (try simp ))
              refine CondK.ff ?_
              try simp 
              apply he4
              try simp 
              repeat (refine PreK.intro (by first | omega | (intros; first | omega | (refine ⟨by omega, ?_⟩; simp_all; done) | (simp_all; done) | (simp_all; omega))) fun _ => ?_; (try simp ))
              exact hq2 4 _ (by omega) (by omega) (by simp [namR, rowR, range_succ', hma, leEls_refl])
          · simp at h6
        · simp [namR, rowR, range_succ']
          try simp 
          repeat (refine PreK.intro (by first | omega | (intros; first | omega | (refine ⟨by omega, ?_⟩; simp_all; done) | (simp_all; done) | (simp_all; omega))) fun _ => ?_; (try simp ))
          refine CondK.intro (fun h6 => ?_) (fun h6 => ?_)
          · simp at h6
          · apply he2
            try simp 
            repeat (refine PreK.intro (by first | omega | (intros; first | omega | (refine ⟨by omega, ?_⟩; simp_all; done) | (simp_all; done) | (simp_all; omega))) fun _ => ?_; (try simp ))
            refine ⟨[1100, 1101, 1102, 1103, 1003], ?_⟩
            have htk : ∀ (l : List Int) (f : Int → AV), List.take l.length (List.map f l) = List.map f l := fun l f => List.take_of_length_le (by simp)
            rw [hrr]
            simp [namR, rowR, range_succ', htk]
      · rw [hn] at hcm hwl hval hrr
        simp only [rowN, rowM] at hcm
        refine CallX.mem 1000 hcm (by simp) (by simp [range_succ']) (by simp [range_succ']) ?_
        simp [range_succ']
        try simp 
        repeat (refine PreK.intro (by first | omega | (intros; first | omega | (refine ⟨by omega, ?_⟩; simp_all; done) | (simp_all; done) | (simp_all; omega))) fun _ => ?_; (try simp ))
        refine LoopK.by (ι := Nat) (fun k => ⟨[(24, iv k), (23, iv 5), (22, .sl 1003 6 0 5), (7, .sl 1003 6 0 5), (1, ints to)], (1003, some ⟨1, namR t 5, 6, true⟩) :: rowR t to 5 k⟩) (fun k => 5 - k) (fun k => k ≤ 5) 0 (Nat.zero_le _) (by simp [namR, rowR, range_succ', leEls_refl]) ?_
        intro k Q2 hk hq2 he2 hr2
        have hk6 : k = 0 ∨ k = 1 ∨ k = 2 ∨ k = 3 ∨ k = 4 ∨ k = 5 := by omega
        rcases hk6 with rfl | rfl | rfl | rfl | rfl | rfl
        · obtain ⟨hl1, hl2⟩ := hwl 0 (by omega)
          have hm0 := mixR_zero (renF to) (el t 0)
          simp [namR, rowR, range_succ']
          try simp 
          repeat (refine PreK.intro (by first | omega | (intros; first | omega | (refine ⟨by omega, ?_⟩; simp_all; done) | (simp_all; done) | (simp_all; omega))) fun _ => ?_; (try simp ))
          refine CondK.intro (fun h6 => ?_) (fun h6 => ?_)
          · try simp 
            repeat (refine PreK.intro (by first | omega | (intros; first | omega | (refine ⟨by omega, ?_⟩; simp_all; done) | (simp_all; done) | (simp_all; omega))) fun _ => ?_; (try simp ))
            refine LoopK.by (ι := Nat) (fun i => ⟨[(30, iv i), (29, iv (el t 0).length), (28, .sl 1100 1 0 (el t 0).length), (9, .sl 1100 1 0 (el t 0).length), (24, iv 0), (23, iv 5), (22, .sl 1003 6 0 5), (7, .sl 1003 6 0 5), (1, ints to)], (1003, some ⟨1, namR t 5, 6, true⟩) :: rowQ t to 5 0 i⟩) (fun i => (el t 0).length - i) (fun i => i ≤ (el t 0).length) 0 (Nat.zero_le _) (by simp [namR, rowQ, range_succ', hm0, leEls_refl]) ?_
            intro i Q4 hi hq4 he4 hr4
            have hml := mixR_len (renF to) (el t 0) i
            simp [namR, rowQ, range_succ']
            by_cases h7 : i < (el t 0).length
            · have h7' : (i : Int) < (el t 0).length := by omega
              obtain ⟨x, hx, hxl⟩ := hval 0 i (by omega) h7
              have hme := mixR_el (renF to) h7
              rw [hx] at hme
              have h7m : i < (mixR (renF to) (el t 0) i).length := by omega
              have hms : (List.map iv (mixR (renF to) (el t 0) i)).set i (AV.raw (.int .i64 (el to x))) = List.map iv (mixR (renF to) (el t 0) (i + 1)) := by
                rw [← mixR_set (renF to) h7, List.map_set, hx]; rfl
              try simp [h7, h7', h7m, hml, hme, hx, hxl, hms]
              repeat (refine PreK.intro (by first | omega | (intros; first | omega | (refine ⟨by omega, ?_⟩; simp_all; done) | (simp_all; done) | (simp_all; omega))) fun _ => ?_; (try simp [h7, h7', h7m, hml, hme, hx, hxl, hms]))
              refine CondK.tt ?_
              try simp 
              try simp [h7, h7', h7m, hml, hme, hx, hxl, hms]
              repeat (refine PreK.intro (by first | omega | (intros; first | omega | (refine ⟨by omega, ?_⟩; simp_all; done) | (simp_all; done) | (simp_all; omega))) fun _ => ?_; (try simp [h7, h7', h7m, hml, hme, hx, hxl, hms]))
              exact hq4 (i + 1) _ (by omega) (by omega) (by simp [namR, rowQ, range_succ', leEls_refl])
            · have h7' : ¬ (i : Int) < (el t 0).length := by omega
              have hie : i = (el t 0).length := by omega
              subst hie
              have hma := mixR_all (renF to) (el t 0)
              try simp 
              repeat (refine PreK.intro (by first | omega | (intros; first | omega | (refine ⟨by omega, ?_⟩; simp_all; done) | (simp_all; done) | (simp_all; omega))) fun _ => ?_; (try simp ))
              refine CondK.ff ?_
              try simp 
              apply he4
              try simp 
              repeat (refine PreK.intro (by first | omega | (intros; first | omega | (refine ⟨by omega, ?_⟩; simp_all; done) | (simp_all; done) | (simp_all; omega))) fun _ => ?_; (try simp ))
              exact hq2 1 _ (by omega) (by omega) (by simp [namR, rowR, range_succ', hma, leEls_refl])
          · simp at h6
        · obtain ⟨hl1, hl2⟩ := hwl 1 (by omega)
          have hm0 := mixR_zero (renF to) (el t 1)
          simp [namR, rowR, range_succ']
          try simp 
          repeat (refine PreK.intro (by first | omega | (intros; first | omega | (refine ⟨by omega, ?_⟩; simp_all; done) | (simp_all; done) | (simp_all; omega))) fun _ => ?_; (try simp ))
          refine CondK.intro (fun h6 => ?_) (fun h6 => ?_)
          · try simp 
            repeat (refine PreK.intro (by first | omega | (intros; first | omega | (refine ⟨by omega, ?_⟩; simp_all; done) | (simp_all; done) | (simp_all; omega))) fun _ => ?_; (try simp ))
            refine LoopK.by (ι := Nat) (fun i => ⟨[(30, iv i), (29, iv (el t 1).length), (28, .sl 1101 1 0 (el t 1).length), (9, .sl 1101 1 0 (el t 1).length), (24, iv 1), (23, iv 5), (22, .sl 1003 6 0 5), (7, .sl 1003 6 0 5), (1, ints to)], (1003, some ⟨1, namR t 5, 6, true⟩) :: rowQ t to 5 1 i⟩) (fun i => (el t 1).length - i) (fun i => i ≤ (el t 1).length) 0 (Nat.zero_le _) (by simp [namR, rowQ, range_succ', hm0, leEls_refl]) ?_
            intro i Q4 hi hq4 he4 hr4
            have hml := mixR_len (renF to) (el t 1) i
            simp [namR, rowQ, range_succ']
            by_cases h7 : i < (el t 1).length
            · have h7' : (i : Int) < (el t 1).length := by omega
              obtain ⟨x, hx, hxl⟩ := hval 1 i (by omega) h7
              have hme := mixR_el (renF to) h7
              rw [hx] at hme
              have h7m : i < (mixR (renF to) (el t 1) i).length := by omega
              have hms : (List.map iv (mixR (renF to) (el t 1) i)).set i (AV.raw (.int .i64 (el to x))) = List.map iv (mixR (renF to) (el t 1) (i + 1)) := by
                rw [← mixR_set (renF to) h7, List.map_set, hx]; rfl
              try simp [h7, h7', h7m, hml, hme, hx, hxl, hms]
              repeat (refine PreK.intro (by first | omega | (intros; first | omega | (refine ⟨by omega, ?_⟩; simp_all; done) | (simp_all; done) | (simp_all; omega))) fun _ => ?_; (try simp [h7, h7', h7m, hml, hme, hx, hxl, hms]))
              refine CondK.tt ?_
              try simp 
              try simp [h7, h7', h7m, hml, hme, hx, hxl, hms]
              repeat (refine PreK.intro (by first | omega | (intros; first | omega | (refine ⟨by omega, ?_⟩; simp_all; done) | (simp_all; done) | (simp_all; omega))) fun _ => ?_; (try simp [h7, h7', h7m, hml, hme, hx, hxl, hms]))
              exact hq4 (i + 1) _ (by omega) (by omega) (by simp [namR, rowQ, range_succ', leEls_refl])
            · have h7' : ¬ (i : Int) < (el t 1).length := by omega
              have hie : i = (el t 1).length := by omega
              subst hie
              have hma := mixR_all (renF to) (el t 1)
              try simp 
              repeat (refine PreK.intro (by first | omega | (intros; first | omega | (refine ⟨by omega, ?_⟩; simp_all; done) | (simp_all; done) | (simp_all; omega))) fun _ => ?_; (try simp ))
              refine CondK.ff ?_
              try simp 
              apply he4
              try simp 
              repeat (refine PreK.intro (by first | omega | (intros; first | omega | (refine ⟨by omega, ?_⟩; simp_all; done) | (simp_all; done) | (simp_all; omega))) fun _ => ?_; (try simp ))
              exact hq2 2 _ (by omega) (by omega) (by simp [namR, rowR, range_succ', hma, leEls_refl])
          · simp at h6
        · obtain ⟨hl1, hl2⟩ := hwl 2 (by omega)
          have hm0 := mixR_zero (renF to) (el t 2)
          simp [namR, rowR, range_succ']
          try simp 
          repeat (refine PreK.intro (by first | omega | (intros; first | omega | (refine ⟨by omega, ?_⟩; simp_all; done) | (simp_all; done) | (simp_all; omega))) fun _ => ?_; (try simp ))
          refine CondK.intro (fun h6 => ?_) (fun h6 => ?_)
          · try simp 
            repeat (refine PreK.intro (by first | omega | (intros; first | omega | (refine ⟨by omega, ?_⟩; simp_all; done) | (simp_all; done) | (simp_all; omega))) fun _ => ?_; (try simp ))
            refine LoopK.by (ι := Nat) (fun i => ⟨[(30, iv i), (29, iv (el t 2).length), (28, .sl 1102 1 0 (el t 2).length), (9, .sl 1102 1 0 (el t 2).length), (24, iv 2), (23, iv 5), (22, .sl 1003 6 0 5), (7, .sl 1003 6 0 5), (1, ints to)], (1003, some ⟨1, namR t 5, 6, true⟩) :: rowQ t to 5 2 i⟩) (fun i => (el t 2).length - i) (fun i => i ≤ (el t 2).length) 0 (Nat.zero_le _) (by simp [namR, rowQ, range_succ', hm0, leEls_refl]) ?_
            intro i Q4 hi hq4 he4 hr4
            have hml := mixR_len (renF to) (el t 2) i
            simp [namR, rowQ, range_succ']
            by_cases h7 : i < (el t 2).length
            · have h7' : (i : Int) < (el t 2).length := by omega
              obtain ⟨x, hx, hxl⟩ := hval 2 i (by omega) h7
              have hme := mixR_el (renF to) h7
              rw [hx] at hme
              have h7m : i < (mixR (renF to) (el t 2) i).length := by omega
              have hms : (List.map iv (mixR (renF to) (el t 2) i)).set i (AV.raw (.int .i64 (el to x))) = List.map iv (mixR (renF to) (el t 2) (i + 1)) := by
                rw [← mixR_set (renF to) h7, List.map_set, hx]; rfl
              try simp [h7, h7', h7m, hml, hme, hx, hxl, hms]
              repeat (refine PreK.intro (by first | omega | (intros; first | omega | (refine ⟨by omega, ?_⟩; simp_all; done) | (simp_all; done) | (simp_all; omega))) fun _ => ?_; (try simp [h7, h7', h7m, hml, hme, hx, hxl, hms]))
              refine CondK.tt ?_
              try simp 
              try simp [h7, h7', h7m, hml, hme, hx, hxl, hms]
              repeat (refine PreK.intro (by first | omega | (intros; first | omega | (refine ⟨by omega, ?_⟩; simp_all; done) | (simp_all; done) | (simp_all; omega))) fun _ => ?_; (try simp [h7, h7', h7m, hml, hme, hx, hxl, hms]))
              exact hq4 (i + 1) _ (by omega) (by omega) (by simp [namR, rowQ, range_succ', leEls_refl])
            · have h7' : ¬ (i : Int) < (el t 2).length := by omega
              have hie : i = (el t 2).length := by omega
              subst hie
              have hma := mixR_all (renF to) (el t 2)
              try simp 
              repeat (refine PreK.intro (by first | omega | (intros; first | omega | (refine ⟨by omega, ?_⟩; simp_all; done) | (simp_all; done) | (simp_all; omega))) fun _ => ?_; (try simp ))
              refine CondK.ff ?_
              try simp 
              apply he4
              try simp 
              repeat (refine PreK.intro (by first | omega | (intros; first | omega | (refine ⟨by omega, ?_⟩; simp_all; done) | (simp_all; done) | (simp_all; omega))) fun _ => ?_; (try simp ))
              exact hq2 3 _ (by omega) (by omega) (by simp [namR, rowR, range_succ', hma, leEls_refl])
          · simp at h6
        · obtain ⟨hl1, hl2⟩ := hwl 3 (by omega)
          have hm0 := mixR_zero (renF to) (el t 3)
          simp [namR, rowR, range_succ']
          try simp 
          repeat (refine PreK.intro (by first | omega | (intros; first | omega | (refine ⟨by omega, ?_⟩; simp_all; done) | (simp_all; done) | (simp_all; omega))) fun _ => ?_; (try simp ))
          refine CondK.intro (fun h6 => ?_) (fun h6 => ?_)
          · try simp 
            repeat (refine PreK.intro (by first | omega | (intros; first | omega | (refine ⟨by omega, ?_⟩; simp_all; done) | (simp_all; done) | (simp_all; omega))) fun _ => ?_; (try simp ))
            refine LoopK.by (ι := Nat) (fun i => ⟨[(30, iv i), (29, iv (el t 3).length), (28, .sl 1103 1 0 (el t 3).length), (9, .sl 1103 1 0 (el t 3).length), (24, iv 3), (23, iv 5), (22, .sl 1003 6 0 5), (7, .sl 1003 6 0 5), (1, ints to)], (1003, some ⟨1, namR t 5, 6, true⟩) :: rowQ t to 5 3 i⟩) (fun i => (el t 3).length - i) (fun i => i ≤ (el t 3).length) 0 (Nat.zero_le _) (by simp [namR, rowQ, range_succ', hm0, leEls_refl]) ?_
            intro i Q4 hi hq4 he4 hr4
            have hml := mixR_len (renF to) (el t 3) i
            simp [namR, rowQ, range_succ']
            by_cases h7 : i < (el t 3).length
            · have h7' : (i : Int) < (el t 3).length := by omega
              obtain ⟨x, hx, hxl⟩ := hval 3 i (by omega) h7
              have hme := mixR_el (renF to) h7
              rw [hx] at hme
              have h7m : i < (mixR (renF to) (el t 3) i).length := by omega
              have hms : (List.map iv (mixR (renF to) (el t 3) i)).set i (AV.raw (.int .i64 (el to x))) = List.map iv (mixR (renF to) (el t 3) (i + 1)) := by
                rw [← mixR_set (renF to) h7, List.map_set, hx]; rfl
              try simp [h7, h7', h7m, hml, hme, hx, hxl, hms]
              repeat (refine PreK.intro (by first | omega | (intros; first | omega | (refine ⟨by omega, ?_⟩; simp_all; done) | (simp_all; done) | (simp_all; omega))) fun _ => ?_; (try simp [h7, h7', h7m, hml, hme, hx, hxl, hms]))
              refine CondK.tt ?_
              try simp 
              try simp [h7, h7', h7m, hml, hme, hx, hxl, hms]
              repeat (refine PreK.intro (by first | omega | (intros; first | omega | (refine ⟨by omega, ?_⟩; simp_all; done) | (simp_all; done) | (simp_all; omega))) fun _ => ?_; (try simp [h7, h7', h7m, hml, hme, hx, hxl, hms]))
              exact hq4 (i + 1) _ (by omega) (by omega) (by simp [namR, rowQ, range_succ', leEls_refl])
            · have h7' : ¬ (i : Int) < (el t 3).length := by omega
              have hie : i = (el t 3).length := by omega
              subst hie
              have hma := mixR_all (renF to) (el t 3)
              try simp 
              repeat (refine PreK.intro (by first | omega | (intros; first | omega | (refine ⟨by omega, ?_⟩; simp_all; done) | (simp_all; done) | (simp_all; omega))) fun _ => ?_; (try simp ))
              refine CondK.ff ?_
              try simp 
              apply he4
              try simp 
              repeat (refine PreK.intro (by first | omega | (intros; first | omega | (refine ⟨by omega, ?_⟩; simp_all; done) | (simp_all; done) | (simp_all; omega))) fun _ => ?_; (try simp ))
              exact hq2 4 _ (by omega) (by omega) (by simp [namR, rowR, range_succ', hma, leEls_refl])
          · simp at h6
        · obtain ⟨hl1, hl2⟩ := hwl 4 (by omega)
          have hm0 := mixR_zero (renF to) (el t 4)
          simp [namR, rowR, range_succ']
          try simp 
          repeat (refine PreK.intro (by first | omega | (intros; first | omega | (refine ⟨by omega, ?_⟩; simp_all; done) | (simp_all; done) | (simp_all; omega))) fun _ => ?_; (try simp ))
          refine CondK.intro (fun h6 => ?_) (fun h6 => ?_)
          · try simp 
            repeat (refine PreK.intro (by first | omega | (intros; first | omega | (refine ⟨by omega, ?_⟩; simp_all; done) | (simp_all; done) | (simp_all; omega))) fun _ => ?_; (try simp ))
            refine LoopK.by (ι := Nat) (fun i => ⟨[(30, iv i), (29, iv (el t 4).length), (28, .sl 1104 1 0 (el t 4).length), (9, .sl 1104 1 0 (el t 4).length), (24, iv 4), (23, iv 5), (22, .sl 1003 6 0 5), (7, .sl 1003 6 0 5), (1, ints to)], (1003, some ⟨1, namR t 5, 6, true⟩) :: rowQ t to 5 4 i⟩) (fun i => (el t 4).length - i) (fun i => i ≤ (el t 4).length) 0 (Nat.zero_le _) (by simp [namR, rowQ, range_succ', hm0, leEls_refl]) ?_
            intro i Q4 hi hq4 he4 hr4
            have hml := mixR_len (renF to) (el t 4) i
            simp [namR, rowQ, range_succ']
            by_cases h7 : i < (el t 4).length
            · have h7' : (i : Int) < (el t 4).length := by omega
              obtain ⟨x, hx, hxl⟩ := hval 4 i (by omega) h7
              have hme := mixR_el (renF to) h7
              rw [hx] at hme
              have h7m : i < (mixR (renF to) (el t 4) i).length := by omega
              have hms : (List.map iv (mixR (renF to) (el t 4) i)).set i (AV.raw (.int .i64 (el to x))) = List.map iv (mixR (renF to) (el t 4) (i + 1)) := by
                rw [← mixR_set (renF to) h7, List.map_set, hx]; rfl
              try simp [h7, h7', h7m, hml, hme, hx, hxl, hms]
              repeat (refine PreK.intro (by first | omega | (intros; first | omega | (refine ⟨by omega, ?_⟩; simp_all; done) | (simp_all; done) | (simp_all; omega))) fun _ => ?_; (try simp [h7, h7', h7m, hml, hme, hx, hxl, hms]))
              refine CondK.tt ?_
              try simp 
              try simp [h7, h7', h7m, hml, hme, hx, hxl, hms]
              repeat (refine PreK.intro (by first | omega | (intros; first | omega | (refine ⟨by omega, ?_⟩; simp_all; done) | (simp_all; done) | (simp_all; omega))) fun _ => ?_; (try simp [h7, h7', h7m, hml, hme, hx, hxl, hms]))
              exact hq4 (i + 1) _ (by omega) (by omega) (by simp [namR, rowQ, range_succ', leEls_refl])
            · have h7' : ¬ (i : Int) < (el t 4).length := by omega
              have hie : i = (el t 4).length := by omega
              subst hie
              have hma := mixR_all (renF to) (el t 4)
              try simp 
              repeat (refine PreK.intro (by first | omega | (intros; first | omega | (refine ⟨by omega, ?_⟩; simp_all; done) | (simp_all; done) | (simp_all; omega))) fun _ => ?_; (try simp ))
              refine CondK.ff ?_
              try simp 
              apply he4
              try simp 
              repeat (refine PreK.intro (by first | omega | (intros; first | omega | (refine ⟨by omega, ?_⟩; simp_all; done) | (simp_all; done) | (simp_all; omega))) fun _ => ?_; (try simp ))
              exact hq2 5 _ (by omega) (by omega) (by simp [namR, rowR, range_succ', hma, leEls_refl])
          · simp at h6
        · simp [namR, rowR, range_succ']
          try simp 
          repeat (refine PreK.intro (by first | omega | (intros; first | omega | (refine ⟨by omega, ?_⟩; simp_all; done) | (simp_all; done) | (simp_all; omega))) fun _ => ?_; (try simp ))
          refine CondK.intro (fun h6 => ?_) (fun h6 => ?_)
          · simp at h6
          · apply he2
            try simp 
            repeat (refine PreK.intro (by first | omega | (intros; first | omega | (refine ⟨by omega, ?_⟩; simp_all; done) | (simp_all; done) | (simp_all; omega))) fun _ => ?_; (try simp ))
            refine ⟨[1100, 1101, 1102, 1103, 1104, 1003], ?_⟩
            have htk : ∀ (l : List Int) (f : Int → AV), List.take l.length (List.map f l) = List.map f l := fun l f => List.take_of_length_le (by simp)
            rw [hrr]
            simp [namR, rowR, range_succ', htk]
      · rw [hn] at hcm hwl hval hrr
        simp only [rowN, rowM] at hcm
        refine CallX.mem 1000 hcm (by simp) (by simp [range_succ']) (by simp [range_succ']) ?_
        simp [range_succ']
        try simp 
        repeat (refine PreK.intro (by first | omega | (intros; first | omega | (refine ⟨by omega, ?_⟩; simp_all; done) | (simp_all; done) | (simp_all; omega))) fun _ => ?_; (try simp ))
        refine LoopK.by (ι := Nat) (fun k => ⟨[(24, iv k), (23, iv 6), (22, .sl 1003 7 0 6), (7, .sl 1003 7 0 6), (1, ints to)], (1003, some ⟨1, namR t 6, 7, true⟩) :: rowR t to 6 k⟩) (fun k => 6 - k) (fun k => k ≤ 6) 0 (Nat.zero_le _) (by simp [namR, rowR, range_succ', leEls_refl]) ?_
        intro k Q2 hk hq2 he2 hr2
        have hk6 : k = 0 ∨ k = 1 ∨ k = 2 ∨ k = 3 ∨ k = 4 ∨ k = 5 ∨ k = 6 := by omega
        rcases hk6 with rfl | rfl | rfl | rfl | rfl | rfl | rfl
        · obtain ⟨hl1, hl2⟩ := hwl 0 (by omega)
          have hm0 := mixR_zero (renF to) (el t 0)
          simp [namR, rowR, range_succ']
          try simp 
          repeat (refine PreK.intro (by first | omega | (intros; first | omega | (refine ⟨by omega, ?_⟩; simp_all; done) | (simp_all; done) | (simp_all; omega))) fun _ => ?_; (try simp ))
          refine CondK.intro (fun h6 => ?_) (fun h6 => ?_)
          · try simp 
            repeat (refine PreK.intro (by first | omega | (intros; first | omega | (refine ⟨by omega, ?_⟩; simp_all; done) | (simp_all; done) | (simp_all; omega))) fun _ => ?_; (try simp ))
            refine LoopK.by (ι := Nat) (fun i => ⟨[(30, iv i), (29, iv (el t 0).length), (28, .sl 1100 1 0 (el t 0).length), (9, .sl 1100 1 0 (el t 0).length), (24, iv 0), (23, iv 6), (22, .sl 1003 7 0 6), (7, .sl 1003 7 0 6), (1, ints to)], (1003, some ⟨1, namR t 6, 7, true⟩) :: rowQ t to 6 0 i⟩) (fun i => (el t 0).length - i) (fun i => i ≤ (el t 0).length) 0 (Nat.zero_le _) (by simp [namR, rowQ, range_succ', hm0, leEls_refl]) ?_
            intro i Q4 hi hq4 he4 hr4
            have hml := mixR_len (renF to) (el t 0) i
            simp [namR, rowQ, range_succ']
            by_cases h7 : i < (el t 0).length
            · have h7' : (i : Int) < (el t 0).length := by omega
              obtain ⟨x, hx, hxl⟩ := hval 0 i (by omega) h7
              have hme := mixR_el (renF to) h7
              rw [hx] at hme
              have h7m : i < (mixR (renF to) (el t 0) i).length := by omega
              have hms : (List.map iv (mixR (renF to) (el t 0) i)).set i (AV.raw (.int .i64 (el to x))) = List.map iv (mixR (renF to) (el t 0) (i + 1)) := by
                rw [← mixR_set (renF to) h7, List.map_set, hx]; rfl
              try simp [h7, h7', h7m, hml, hme, hx, hxl, hms]
              repeat (refine PreK.intro (by first | omega | (intros; first | omega | (refine ⟨by omega, ?_⟩; simp_all; done) | (simp_all; done) | (simp_all; omega))) fun _ => ?_; (try simp [h7, h7', h7m, hml, hme, hx, hxl, hms]))
              refine CondK.tt ?_
              try simp 
              try simp [h7, h7', h7m, hml, hme, hx, hxl, hms]
              repeat (refine PreK.intro (by first | omega | (intros; first | omega | (refine ⟨by omega, ?_⟩; simp_all; done) | (simp_all; done) | (simp_all; omega))) fun _ => ?_; (try simp [h7, h7', h7m, hml, hme, hx, hxl, hms]))
              exact hq4 (i + 1) _ (by omega) (by omega) (by simp [namR, rowQ, range_succ', leEls_refl])
            · have h7' : ¬ (i : Int) < (el t 0).length := by omega
              have hie : i = (el t 0).length := by omega
              subst hie
              have hma := mixR_all (renF to) (el t 0)
              try simp 
              repeat (refine PreK.intro (by first | omega | (intros; first | omega | (refine ⟨by omega, ?_⟩; simp_all; done) | (simp_all; done) | (simp_all; omega))) fun _ => ?_; (try simp ))
              refine CondK.ff ?_
              try simp 
              apply he4
              try simp 
              repeat (refine PreK.intro (by first | omega | (intros; first | omega | (refine ⟨by omega, ?_⟩; simp_all; done) | (simp_all; done) | (simp_all; omega))) fun _ => ?_; (try simp ))
              exact hq2 1 _ (by omega) (by omega) (by simp [namR, rowR, range_succ', hma, leEls_refl])
          · simp at h6
        · obtain ⟨hl1, hl2⟩ := hwl 1 (by omega)
          have hm0 := mixR_zero (renF to) (el t 1)
          simp [namR, rowR, range_succ']
          try simp 
          repeat (refine PreK.intro (by first | omega | (intros; first | omega | (refine ⟨by omega, ?_⟩; simp_all; done) | (simp_all; done) | (simp_all; omega))) fun _ => ?_; (try simp ))
          refine CondK.intro (fun h6 => ?_) (fun h6 => ?_)
          · try simp 
            repeat (refine PreK.intro (by first | omega | (intros; first | omega | (refine ⟨by omega, ?_⟩; simp_all; done) | (simp_all; done) | (simp_all; omega))) fun _ => ?_; (try simp ))
            refine LoopK.by (ι := Nat) (fun i => ⟨[(30, iv i), (29, iv (el t 1).length), (28, .sl 1101 1 0 (el t 1).length), (9, .sl 1101 1 0 (el t 1).length), (24, iv 1), (23, iv 6), (22, .sl 1003 7 0 6), (7, .sl 1003 7 0 6), (1, ints to)], (1003, some ⟨1, namR t 6, 7, true⟩) :: rowQ t to 6 1 i⟩) (fun i => (el t 1).length - i) (fun i => i ≤ (el t 1).length) 0 (Nat.zero_le _) (by simp [namR, rowQ, range_succ', hm0, leEls_refl]) ?_
            intro i Q4 hi hq4 he4 hr4
            have hml := mixR_len (renF to) (el t 1) i
            simp [namR, rowQ, range_succ']
            by_cases h7 : i < (el t 1).length
            · have h7' : (i : Int) < (el t 1).length := by omega
              obtain ⟨x, hx, hxl⟩ := hval 1 i (by omega) h7
              have hme := mixR_el (renF to) h7
              rw [hx] at hme
              have h7m : i < (mixR (renF to) (el t 1) i).length := by omega
              have hms : (List.map iv (mixR (renF to) (el t 1) i)).set i (AV.raw (.int .i64 (el to x))) = List.map iv (mixR (renF to) (el t 1) (i + 1)) := by
                rw [← mixR_set (renF to) h7, List.map_set, hx]; rfl
              try simp [h7, h7', h7m, hml, hme, hx, hxl, hms]
              repeat (refine PreK.intro (by first | omega | (intros; first | omega | (refine ⟨by omega, ?_⟩; simp_all; done) | (simp_all; done) | (simp_all; omega))) fun _ => ?_; (try simp [h7, h7', h7m, hml, hme, hx, hxl, hms]))
              refine CondK.tt ?_
              try simp 
              try simp [h7, h7', h7m, hml, hme, hx, hxl, hms]
              repeat (refine PreK.intro (by first | omega | (intros; first | omega | (refine ⟨by omega, ?_⟩; simp_all; done) | (simp_all; done) | (simp_all; omega))) fun _ => ?_; (try simp [h7, h7', h7m, hml, hme, hx, hxl, hms]))
              exact hq4 (i + 1) _ (by omega) (by omega) (by simp [namR, rowQ, range_succ', leEls_refl])
            · have h7' : ¬ (i : Int) < (el t 1).length := by omega
              have hie : i = (el t 1).length := by omega
              subst hie
              have hma := mixR_all (renF to) (el t 1)
              try simp 
              repeat (refine PreK.intro (by first | omega | (intros; first | omega | (refine ⟨by omega, ?_⟩; simp_all; done) | (simp_all; done) | (simp_all; omega))) fun _ => ?_; (try simp ))
              refine CondK.ff ?_
              try simp 
              apply he4
              try simp 
              repeat (refine PreK.intro (by first | omega | (intros; first | omega | (refine ⟨by omega, ?_⟩; simp_all; done) | (simp_all; done) | (simp_all; omega))) fun _ => ?_; (try simp ))
              exact hq2 2 _ (by omega) (by omega) (by simp [namR, rowR, range_succ', hma, leEls_refl])
          · simp at h6
        · obtain ⟨hl1, hl2⟩ := hwl 2 (by omega)
          have hm0 := mixR_zero (renF to) (el t 2)
          simp [namR, rowR, range_succ']
          try simp 
          repeat (refine PreK.intro (by first | omega | (intros; first | omega | (refine ⟨by omega, ?_⟩; simp_all; done) | (simp_all; done) | (simp_all; omega))) fun _ => ?_; (try simp ))
          refine CondK.intro (fun h6 => ?_) (fun h6 => ?_)
          · try simp 
            repeat (refine PreK.intro (by first | omega | (intros; first | omega | (refine ⟨by omega, ?_⟩; simp_all; done) | (simp_all; done) | (simp_all; omega))) fun _ => ?_; (try simp ))
            refine LoopK.by (ι := Nat) (fun i => ⟨[(30, iv i), (29, iv (el t 2).length), (28, .sl 1102 1 0 (el t 2).length), (9, .sl 1102 1 0 (el t 2).length), (24, iv 2), (23, iv 6), (22, .sl 1003 7 0 6), (7, .sl 1003 7 0 6), (1, ints to)], (1003, some ⟨1, namR t 6, 7, true⟩) :: rowQ t to 6 2 i⟩) (fun i => (el t 2).length - i) (fun i => i ≤ (el t 2).length) 0 (Nat.zero_le _) (by simp [namR, rowQ, range_succ', hm0, leEls_refl]) ?_
            intro i Q4 hi hq4 he4 hr4
            have hml := mixR_len (renF to) (el t 2) i
            simp [namR, rowQ, range_succ']
            by_cases h7 : i < (el t 2).length
            · have h7' : (i : Int) < (el t 2).length := by omega
              obtain ⟨x, hx, hxl⟩ := hval 2 i (by omega) h7
              have hme := mixR_el (renF to) h7
              rw [hx] at hme
              have h7m : i < (mixR (renF to) (el t 2) i).length := by omega
              have hms : (List.map iv (mixR (renF to) (el t 2) i)).set i (AV.raw (.int .i64 (el to x))) = List.map iv (mixR (renF to) (el t 2) (i + 1)) := by
                rw [← mixR_set (renF to) h7, List.map_set, hx]; rfl
              try simp [h7, h7', h7m, hml, hme, hx, hxl, hms]
              repeat (refine PreK.intro (by first | omega | (intros; first | omega | (refine ⟨by omega, ?_⟩; simp_all; done) | (simp_all; done) | (simp_all; omega))) fun _ => ?_; (try simp [h7, h7', h7m, hml, hme, hx, hxl, hms]))
              refine CondK.tt ?_
              try simp 
              try simp [h7, h7', h7m, hml, hme, hx, hxl, hms]
              repeat (refine PreK.intro (by first | omega | (intros; first | omega | (refine ⟨by omega, ?_⟩; simp_all; done) | (simp_all; done) | (simp_all; omega))) fun _ => ?_; (try simp [h7, h7', h7m, hml, hme, hx, hxl, hms]))
              exact hq4 (i + 1) _ (by omega) (by omega) (by simp [namR, rowQ, range_succ', leEls_refl])
            · have h7' : ¬ (i : Int) < (el t 2).length := by omega
              have hie : i = (el t 2).length := by omega
              subst hie
              have hma := mixR_all (renF to) (el t 2)
              try simp 
              repeat (refine PreK.intro (by first | omega | (intros; first | omega | (refine ⟨by omega, ?_⟩; simp_all; done) | (simp_all; done) | (simp_all; omega))) fun _ => ?_; (try simp ))
              refine CondK.ff ?_
              try simp 
              apply he4
              try simp 
              repeat (refine PreK.intro (by first | omega | (intros; first | omega | (refine ⟨by omega, ?_⟩; simp_all; done) | (simp_all; done) | (simp_all; omega))) fun _ => ?_; (try simp ))
              exact hq2 3 _ (by omega) (by omega) (by simp [namR, rowR, range_succ', hma, leEls_refl])
          · simp at h6
        · obtain ⟨hl1, hl2⟩ := hwl 3 (by omega)
          have hm0 := mixR_zero (renF to) (el t 3)
          simp [namR, rowR, range_succ']
          try simp 
          repeat (refine PreK.intro (by first | omega | (intros; first | omega | (refine ⟨by omega, ?_⟩; simp_all; done) | (simp_all; done) | (simp_all; omega))) fun _ => ?_; (try simp ))
          refine CondK.intro (fun h6 => ?_) (fun h6 => ?_)
          · try simp 
            repeat (refine PreK.intro (by first | omega | (intros; first | omega | (refine ⟨by omega, ?_⟩; simp_all; done) | (simp_all; done) | (simp_all; omega))) fun _ => ?_; (try simp ))
            refine LoopK.by (ι := Nat) (fun i => ⟨[(30, iv i), (29, iv (el t 3).length), (28, .sl 1103 1 0 (el t 3).length), (9, .sl 1103 1 0 (el t 3).length), (24, iv 3), (23, iv 6), (22, .sl 1003 7 0 6), (7, .sl 1003 7 0 6), (1, ints to)], (1003, some ⟨1, namR t 6, 7, true⟩) :: rowQ t to 6 3 i⟩) (fun i => (el t 3).length - i) (fun i => i ≤ (el t 3).length) 0 (Nat.zero_le _) (by simp [namR, rowQ, range_succ', hm0, leEls_refl]) ?_
            intro i Q4 hi hq4 he4 hr4
            have hml := mixR_len (renF to) (el t 3) i
            simp [namR, rowQ, range_succ']
            by_cases h7 : i < (el t 3).length
            · have h7' : (i : Int) < (el t 3).length := by omega
              obtain ⟨x, hx, hxl⟩ := hval 3 i (by omega) h7
              have hme := mixR_el (renF to) h7
              rw [hx] at hme
              have h7m : i < (mixR (renF to) (el t 3) i).length := by omega
              have hms : (List.map iv (mixR (renF to) (el t 3) i)).set i (AV.raw (.int .i64 (el to x))) = List.map iv (mixR (renF to) (el t 3) (i + 1)) := by
                rw [← mixR_set (renF to) h7, List.map_set, hx]; rfl
              try simp [h7, h7', h7m, hml, hme, hx, hxl, hms]
              repeat (refine PreK.intro (by first | omega | (intros; first | omega | (refine ⟨by omega, ?_⟩; simp_all; done) | (simp_all; done) | (simp_all; omega))) fun _ => ?_; (try simp [h7, h7', h7m, hml, hme, hx, hxl, hms]))
              refine CondK.tt ?_
              try simp 
              try simp [h7, h7', h7m, hml, hme, hx, hxl, hms]
              repeat (refine PreK.intro (by first | omega | (intros; first | omega | (refine ⟨by omega, ?_⟩; simp_all; done) | (simp_all; done) | (simp_all; omega))) fun _ => ?_; (try simp [h7, h7', h7m, hml, hme, hx, hxl, hms]))
              exact hq4 (i + 1) _ (by omega) (by omega) (by simp [namR, rowQ, range_succ', leEls_refl])
            · have h7' : ¬ (i : Int) < (el t 3).length := by omega
              have hie : i = (el t 3).length := by omega
              subst hie
              have hma := mixR_all (renF to) (el t 3)
              try simp 
              repeat (refine PreK.intro (by first | omega | (intros; first | omega | (refine ⟨by omega, ?_⟩; simp_all; done) | (simp_all; done) | (simp_all; omega))) fun _ => ?_; (try simp ))
              refine CondK.ff ?_
              try simp 
              apply he4
              try simp 
              repeat (refine PreK.intro (by first | omega | (intros; first | omega | (refine ⟨by omega, ?_⟩; simp_all; done) | (simp_all; done) | (simp_all; omega))) fun _ => ?_; (try simp ))
              exact hq2 4 _ (by omega) (by omega) (by simp [namR, rowR, range_succ', hma, leEls_refl])
          · simp at h6
        · obtain ⟨hl1, hl2⟩ := hwl 4 (by omega)
          have hm0 := mixR_zero (renF to) (el t 4)
          simp [namR, rowR, range_succ']
          try simp 
          repeat (refine PreK.intro (by first | omega | (intros; first | omega | (refine ⟨by omega, ?_⟩; simp_all; done) | (simp_all; done) | (simp_all; omega))) fun _ => ?_; (try simp ))
          refine CondK.intro (fun h6 => ?_) (fun h6 => ?_)
          · try simp 
            repeat (refine PreK.intro (by first | omega | (intros; first | omega | (refine ⟨by omega, ?_⟩; simp_all; done) | (simp_all; done) | (simp_all; omega))) fun _ => ?_; (try simp ))
            refine LoopK.by (ι := Nat) (fun i => ⟨[(30, iv i), (29, iv (el t 4).length), (28, .sl 1104 1 0 (el t 4).length), (9, .sl 1104 1 0 (el t 4).length), (24, iv 4), (23, iv 6), (22, .sl 1003 7 0 6), (7, .sl 1003 7 0 6), (1, ints to)], (1003, some ⟨1, namR t 6, 7, true⟩) :: rowQ t to 6 4 i⟩) (fun i => (el t 4).length - i) (fun i => i ≤ (el t 4).length) 0 (Nat.zero_le _) (by simp [namR, rowQ, range_succ', hm0, leEls_refl]) ?_
            intro i Q4 hi hq4 he4 hr4
            have hml := mixR_len (renF to) (el t 4) i
            simp [namR, rowQ, range_succ']
            by_cases h7 : i < (el t 4).length
            · have h7' : (i : Int) < (el t 4).length := by omega
              obtain ⟨x, hx, hxl⟩ := hval 4 i (by omega) h7
              have hme := mixR_el (renF to) h7
              rw [hx] at hme
              have h7m : i < (mixR (renF to) (el t 4) i).length := by omega
              have hms : (List.map iv (mixR (renF to) (el t 4) i)).set i (AV.raw (.int .i64 (el to x))) = List.map iv (mixR (renF to) (el t 4) (i + 1)) := by
                rw [← mixR_set (renF to) h7, List.map_set, hx]; rfl
              try simp [h7, h7', h7m, hml, hme, hx, hxl, hms]
              repeat (refine PreK.intro (by first | omega | (intros; first | omega | (refine ⟨by omega, ?_⟩; simp_all; done) | (simp_all; done) | (simp_all; omega))) fun _ => ?_; (try simp [h7, h7', h7m, hml, hme, hx, hxl, hms]))
              refine CondK.tt ?_
              try simp 
              try simp [h7, h7', h7m, hml, hme, hx, hxl, hms]
              repeat (refine PreK.intro (by first | omega | (intros; first | omega | (refine ⟨by omega, ?_⟩; simp_all; done) | (simp_all; done) | (simp_all; omega))) fun _ => ?_; (try simp [h7, h7', h7m, hml, hme, hx, hxl, hms]))
              exact hq4 (i + 1) _ (by omega) (by omega) (by simp [namR, rowQ, range_succ', leEls_refl])
            · have h7' : ¬ (i : Int) < (el t 4).length := by omega
              have hie : i = (el t 4).length := by omega
              subst hie
              have hma := mixR_all (renF to) (el t 4)
              try simp 
              repeat (refine PreK.intro (by first | omega | (intros; first | omega | (refine ⟨by omega, ?_⟩; simp_all; done) | (simp_all; done) | (simp_all; omega))) fun _ => ?_; (try simp ))
              refine CondK.ff ?_
              try simp 
              apply he4
              try simp 
              repeat (refine PreK.intro (by first | omega | (intros; first | omega | (refine ⟨by omega, ?_⟩; simp_all; done) | (simp_all; done) | (simp_all; omega))) fun _ => ?_; (try simp ))
              exact hq2 5 _ (by omega) (by omega) (by simp [namR, rowR, range_succ', hma, leEls_refl])
          · simp at h6
        · obtain ⟨hl1, hl2⟩ := hwl 5 (by omega)
          have hm0 := mixR_zero (renF to) (el t 5)
          simp [namR, rowR, range_succ']
          try simp 
          repeat (refine PreK.intro (by first | omega | (intros; first | omega | (refine ⟨by omega, ?_⟩; simp_all; done) | (simp_all; done) | (simp_all; omega))) fun _ => ?_; (try simp ))
          refine CondK.intro (fun h6 => ?_) (fun h6 => ?_)
          · try simp 
            repeat (refine PreK.intro (by first | omega | (intros; first | omega | (refine ⟨by omega, ?_⟩; simp_all; done) | (simp_all; done) | (simp_all; omega))) fun _ => ?_; (try simp ))
            refine LoopK.by (ι := Nat) (fun i => ⟨[(30, iv i), (29, iv (el t 5).length), (28, .sl 1105 1 0 (el t 5).length), (9, .sl 1105 1 0 (el t 5).length), (24, iv 5), (23, iv 6), (22, .sl 1003 7 0 6), (7, .sl 1003 7 0 6), (1, ints to)], (1003, some ⟨1, namR t 6, 7, true⟩) :: rowQ t to 6 5 i⟩) (fun i => (el t 5).length - i) (fun i => i ≤ (el t 5).length) 0 (Nat.zero_le _) (by simp [namR, rowQ, range_succ', hm0, leEls_refl]) ?_
            intro i Q4 hi hq4 he4 hr4
            have hml := mixR_len (renF to) (el t 5) i
            simp [namR, rowQ, range_succ']
            by_cases h7 : i < (el t 5).length
            · have h7' : (i : Int) < (el t 5).length := by omega
              obtain ⟨x, hx, hxl⟩ := hval 5 i (by omega) h7
              have hme := mixR_el (renF to) h7
              rw [hx] at hme
              have h7m : i < (mixR (renF to) (el t 5) i).length := by omega
              have hms : (List.map iv (mixR (renF to) (el t 5) i)).set i (AV.raw (.int .i64 (el to x))) = List.map iv (mixR (renF to) (el t 5) (i + 1)) := by
                rw [← mixR_set (renF to) h7, List.map_set, hx]; rfl
              try simp [h7, h7', h7m, hml, hme, hx, hxl, hms]
              repeat (refine PreK.intro (by first | omega | (intros; first | omega | (refine ⟨by omega, ?_⟩; simp_all; done) | (simp_all; done) | (simp_all; omega))) fun _ => ?_; (try simp [h7, h7', h7m, hml, hme, hx, hxl, hms]))
              refine CondK.tt ?_
              try simp 
              try simp [h7, h7', h7m, hml, hme, hx, hxl, hms]
              repeat (refine PreK.intro (by first | omega | (intros; first | omega | (refine ⟨by omega, ?_⟩; simp_all; done) | (simp_all; done) | (simp_all; omega))) fun _ => ?_; (try simp [h7, h7', h7m, hml, hme, hx, hxl, hms]))
              exact hq4 (i + 1) _ (by omega) (by omega) (by simp [namR, rowQ, range_succ', leEls_refl])
            · have h7' : ¬ (i : Int) < (el t 5).length := by omega
              have hie : i = (el t 5).length := by omega
              subst hie
              have hma := mixR_all (renF to) (el t 5)
              try simp 
              repeat (refine PreK.intro (by first | omega | (intros; first | omega | (refine ⟨by omega, ?_⟩; simp_all; done) | (simp_all; done) | (simp_all; omega))) fun _ => ?_; (try simp ))
              refine CondK.ff ?_
              try simp 
              apply he4
              try simp 
              repeat (refine PreK.intro (by first | omega | (intros; first | omega | (refine ⟨by omega, ?_⟩; simp_all; done) | (simp_all; done) | (simp_all; omega))) fun _ => ?_; (try simp ))
              exact hq2 6 _ (by omega) (by omega) (by simp [namR, rowR, range_succ', hma, leEls_refl])
          · simp at h6
        · simp [namR, rowR, range_succ']
          try simp 
          repeat (refine PreK.intro (by first | omega | (intros; first | omega | (refine ⟨by omega, ?_⟩; simp_all; done) | (simp_all; done) | (simp_all; omega))) fun _ => ?_; (try simp ))
          refine CondK.intro (fun h6 => ?_) (fun h6 => ?_)
          · simp at h6
          · apply he2
            try simp 
            repeat (refine PreK.intro (by first | omega | (intros; first | omega | (refine ⟨by omega, ?_⟩; simp_all; done) | (simp_all; done) | (simp_all; omega))) fun _ => ?_; (try simp ))
            refine ⟨[1100, 1101, 1102, 1103, 1104, 1105, 1003], ?_⟩
            have htk : ∀ (l : List Int) (f : Int → AV), List.take l.length (List.map f l) = List.map f l := fun l f => List.take_of_length_le (by simp)
            rw [hrr]
            simp [namR, rowR, range_succ', htk]
  · rw [if_pos h1] at hR
    subst hR
    try simp [h1]
    repeat (refine PreK.intro (by first | omega | (intros; first | omega | (refine ⟨by omega, ?_⟩; simp_all; done) | (simp_all; done) | (simp_all; omega))) fun _ => ?_; (try simp [h1]))
    refine CondK.tt ?_
    try simp 
    try simp 
    repeat (refine PreK.intro (by first | omega | (intros; first | omega | (refine ⟨by omega, ?_⟩; simp_all; done) | (simp_all; done) | (simp_all; omega))) fun _ => ?_; (try simp ))
    exact ⟨[], by simp⟩
theorem CF22 {args : List AV} {r : AV} (hn : args.length ≤ 52) (h : vc Tryz.prog T [] A22 (FinF T [(.tmp 4), (.tmp 5)] r) ⟨envOf 0 args, []⟩) : CallP Tryz.prog 22 args r :=
  callPF_of tok mixed Tryz.func22 (by kernel_rfl) (by kernel_rfl) (by kernel_rfl : Tryz.f22.ntmps = 52) (by kernel_rfl : Tryz.f22.body.bind (strip 52 (fun _ => [])) = some A22) hn h
theorem rRename_c (t : List (List Int)) (to : List Int) (hs : Sm t) (ht : to.length ≤ 1000) : CallP Tryz.prog 22 [tabV t, ints to] (.tup [tabV (RenR t to).1, iv (RenR t to).2]) := by
  refine CF22 (by simp) ?_
  have c1 := rValidate_c t hs
  have c2 := risOrder_c to 6 ht
  generalize hR : RenR t to = R
  unfold RenR at hR
  simp [A22]
  try simp 
  repeat' (first
    | (refine CallX.pure (c1) (by simp) (by simp) ?_; try simp )
    | (refine CallK.intro (c1) (by simp) (by simp) ?_; try simp )
    | (refine CallG.intro (fun _ => c1) (by simp) (by simp) ?_; try simp )
    | ((with_reducible refine PreK.intro ?_ ?_); (next => (first | omega | (intros; first | omega | (refine ⟨by omega, ?_⟩; repeat (first | assumption | constructor)) | assumption))); intro _; try simp )
    | fail)
  by_cases h1 : tabErr t = 0
  · rw [if_neg (by simpa using h1)] at hR
    try simp [h1]
    repeat (refine PreK.intro (by first | omega | (intros; first | omega | (refine ⟨by omega, ?_⟩; simp_all; done) | (simp_all; done) | (simp_all; omega))) fun _ => ?_; (try simp [h1]))
    refine CondK.ff ?_
    try simp 
    try simp 
    repeat (refine PreK.intro (by first | omega | (intros; first | omega | (refine ⟨by omega, ?_⟩; simp_all; done) | (simp_all; done) | (simp_all; omega))) fun _ => ?_; (try simp ))
    try simp 
    repeat' (first
      | (refine CallX.pure (c2) (by simp) (by simp) ?_; try simp )
      | (refine CallK.intro (c2) (by simp) (by simp) ?_; try simp )
      | (refine CallG.intro (fun _ => c2) (by simp) (by simp) ?_; try simp )
      | ((with_reducible refine PreK.intro ?_ ?_); (next => (first | omega | (intros; first | omega | (refine ⟨by omega, ?_⟩; repeat (first | assumption | constructor)) | assumption))); intro _; try simp )
      | fail)
    cases h2 : isOrdB to 6 with
    | false =>
      rw [h2, if_neg (by decide)] at hR
      subst hR
      try simp 
      repeat (refine PreK.intro (by first | omega | (intros; first | omega | (refine ⟨by omega, ?_⟩; simp_all; done) | (simp_all; done) | (simp_all; omega))) fun _ => ?_; (try simp ))
      refine CondK.tt ?_
      try simp 
      try simp 
      repeat (refine PreK.intro (by first | omega | (intros; first | omega | (refine ⟨by omega, ?_⟩; simp_all; done) | (simp_all; done) | (simp_all; omega))) fun _ => ?_; (try simp ))
      exact ⟨[], by simp⟩
    | true =>
      rw [h2, if_pos rfl] at hR
      subst hR
      try simp 
      repeat (refine PreK.intro (by first | omega | (intros; first | omega | (refine ⟨by omega, ?_⟩; simp_all; done) | (simp_all; done) | (simp_all; omega))) fun _ => ?_; (try simp ))
      refine CondK.ff ?_
      try simp 
      try simp 
      repeat (refine PreK.intro (by first | omega | (intros; first | omega | (refine ⟨by omega, ?_⟩; simp_all; done) | (simp_all; done) | (simp_all; omega))) fun _ => ?_; (try simp ))
      have hok := tabErr_zero.1 h1
      have hpos := hok.pos
      have hnum := hok.num
      have hor := isOrd_iff.1 (show isOrdB to ((6 : Nat) : Int) = true from h2)
      have hto := hor.len
      have hwl : ∀ j, j < t.length → 1 ≤ (el t j).length ∧ (el t j).length ≤ 1000 := by
        intro j hj
        have h3 := hok.row _ (el_mem_of t j hj)
        have h4 := hs.el j
        refine ⟨?_, by omega⟩
        cases h5 : el t j with
        | nil => exact absurd h5 h3
        | cons a l => simp
      have hval : ∀ j i, j < t.length → i < (el t j).length → ∃ x : Nat, el (el t j) i = (x : Int) ∧ x < to.length := by
        intro j i hj hi
        have h3 := hok.val (el (el t j) i) (List.mem_flatten.2 ⟨_, el_mem_of t j hj, el_mem_of _ i hi⟩)
        exact ⟨(el (el t j) i).toNat, by omega, by omega⟩
      have hrr := ren_rows t to
      have hcm := rCopy_m t (by omega) (by omega) hwl
      have hn : t.length = 1 ∨ t.length = 2 ∨ t.length = 3 ∨ t.length = 4 ∨ t.length = 5 ∨ t.length = 6 := by omega
      rcases hn with hn | hn | hn | hn | hn | hn
      · rw [hn] at hcm hwl hval hrr
        simp only [rowN, rowM] at hcm
        refine CallX.mem 1000 hcm (by simp) (by simp [range_succ']) (by simp [range_succ']) ?_
        simp [range_succ']
        try simp 
        repeat (refine PreK.intro (by first | omega | (intros; first | omega | (refine ⟨by omega, ?_⟩; simp_all; done) | (simp_all; done) | (simp_all; omega))) fun _ => ?_; (try simp ))
        refine LoopK.by (ι := Nat) (fun k => ⟨[(8, iv k), (7, .sl 1003 2 0 1), (0, tabV t), (1, ints to)], (1003, some ⟨1, namR t 1, 2, true⟩) :: rowR t to 1 k⟩) (fun k => 1 - k) (fun k => k ≤ 1) 0 (Nat.zero_le _) (by simp [namR, rowR, range_succ', leEls_refl]) ?_
        intro k Q2 hk hq2 he2 hr2
        have hk6 : k = 0 ∨ k = 1 := by omega
        rcases hk6 with rfl | rfl
        · obtain ⟨hl1, hl2⟩ := hwl 0 (by omega)
          have hm0 := mixR_zero (renF to) (el t 0)
          simp [namR, rowR, range_succ']
          try simp 
          repeat (refine PreK.intro (by first | omega | (intros; first | omega | (refine ⟨by omega, ?_⟩; simp_all; done) | (simp_all; done) | (simp_all; omega))) fun _ => ?_; (try simp ))
          refine CondK.intro (fun h6 => ?_) (fun h6 => ?_)
          · try simp 
            repeat (refine PreK.intro (by first | omega | (intros; first | omega | (refine ⟨by omega, ?_⟩; simp_all; done) | (simp_all; done) | (simp_all; omega))) fun _ => ?_; (try simp ))
            refine LoopK.by (ι := Nat) (fun i => ⟨[(9, iv i), (8, iv 0), (7, .sl 1003 2 0 1), (0, tabV t), (1, ints to)], (1003, some ⟨1, namR t 1, 2, true⟩) :: rowQ t to 1 0 i⟩) (fun i => (el t 0).length - i) (fun i => i ≤ (el t 0).length) 0 (Nat.zero_le _) (by simp [namR, rowQ, range_succ', hm0, leEls_refl]) ?_
            intro i Q4 hi hq4 he4 hr4
            have hml := mixR_len (renF to) (el t 0) i
            simp [namR, rowQ, range_succ']
            by_cases h7 : i < (el t 0).length
            · have h7' : (i : Int) < (el t 0).length := by omega
              obtain ⟨x, hx, hxl⟩ := hval 0 i (by omega) h7
              have hme := mixR_el (renF to) h7
              rw [hx] at hme
              have h7m : i < (mixR (renF to) (el t 0) i).length := by omega
              have hms : (List.map iv (mixR (renF to) (el t 0) i)).set i (AV.raw (.int .i64 (el to x))) = List.map iv (mixR (renF to) (el t 0) (i + 1)) := by
                rw [← mixR_set (renF to) h7, List.map_set, hx]; rfl
              have hjt : 0 < t.length := by omega
              try simp [h7, h7', h7m, hml, hme, hx, hxl, hms, hjt]
              repeat (refine PreK.intro (by first | omega | (intros; first | omega | (refine ⟨by omega, ?_⟩; simp_all; done) | (simp_all; done) | (simp_all; omega))) fun _ => ?_; (try simp [h7, h7', h7m, hml, hme, hx, hxl, hms, hjt]))
              refine CondK.tt ?_
              try simp 
              try simp [h7, h7', h7m, hml, hme, hx, hxl, hms, hjt]
              repeat (refine PreK.intro (by first | omega | (intros; first | omega | (refine ⟨by omega, ?_⟩; simp_all; done) | (simp_all; done) | (simp_all; omega))) fun _ => ?_; (try simp [h7, h7', h7m, hml, hme, hx, hxl, hms, hjt]))
              exact hq4 (i + 1) _ (by omega) (by omega) (by simp [namR, rowQ, range_succ', leEls_refl])
            · have h7' : ¬ (i : Int) < (el t 0).length := by omega
              have hie : i = (el t 0).length := by omega
              subst hie
              have hma := mixR_all (renF to) (el t 0)
              try simp 
              repeat (refine PreK.intro (by first | omega | (intros; first | omega | (refine ⟨by omega, ?_⟩; simp_all; done) | (simp_all; done) | (simp_all; omega))) fun _ => ?_; (try simp ))
              refine CondK.ff ?_
              try simp 
              apply he4
              try simp 
              repeat (refine PreK.intro (by first | omega | (intros; first | omega | (refine ⟨by omega, ?_⟩; simp_all; done) | (simp_all; done) | (simp_all; omega))) fun _ => ?_; (try simp ))
              exact hq2 1 _ (by omega) (by omega) (by simp [namR, rowR, range_succ', hma, leEls_refl])
          · simp at h6
        · simp [namR, rowR, range_succ']
          try simp 
          repeat (refine PreK.intro (by first | omega | (intros; first | omega | (refine ⟨by omega, ?_⟩; simp_all; done) | (simp_all; done) | (simp_all; omega))) fun _ => ?_; (try simp ))
          refine CondK.intro (fun h6 => ?_) (fun h6 => ?_)
          · simp at h6
          · apply he2
            try simp 
            repeat (refine PreK.intro (by first | omega | (intros; first | omega | (refine ⟨by omega, ?_⟩; simp_all; done) | (simp_all; done) | (simp_all; omega))) fun _ => ?_; (try simp ))
            refine ⟨[1100, 1003], ?_⟩
            have htk : ∀ (l : List Int) (f : Int → AV), List.take l.length (List.map f l) = List.map f l := fun l f => List.take_of_length_le (by simp)
            rw [hrr]
            simp [namR, rowR, range_succ', htk]
      · rw [hn] at hcm hwl hval hrr
        simp only [rowN, rowM] at hcm
        refine CallX.mem 1000 hcm (by simp) (by simp [range_succ']) (by simp [range_succ']) ?_
        simp [range_succ']
        try simp 
        repeat (refine PreK.intro (by first | omega | (intros; first | omega | (refine ⟨by omega, ?_⟩; simp_all; done) | (simp_all; done) | (simp_all; omega))) fun _ => ?_; (try simp ))
        refine LoopK.by (ι := Nat) (fun k => ⟨[(8, iv k), (7, .sl 1003 3 0 2), (0, tabV t), (1, ints to)], (1003, some ⟨1, namR t 2, 3, true⟩) :: rowR t to 2 k⟩) (fun k => 2 - k) (fun k => k ≤ 2) 0 (Nat.zero_le _) (by simp [namR, rowR, range_succ', leEls_refl]) ?_
        intro k Q2 hk hq2 he2 hr2
        have hk6 : k = 0 ∨ k = 1 ∨ k = 2 := by omega
        rcases hk6 with rfl | rfl | rfl
        · obtain ⟨hl1, hl2⟩ := hwl 0 (by omega)
          have hm0 := mixR_zero (renF to) (el t 0)
          simp [namR, rowR, range_succ']
          try simp 
          repeat (refine PreK.intro (by first | omega | (intros; first | omega | (refine ⟨by omega, ?_⟩; simp_all; done) | (simp_all; done) | (simp_all; omega))) fun _ => ?_; (try simp ))
          refine CondK.intro (fun h6 => ?_) (fun h6 => ?_)
          · try simp 
            repeat (refine PreK.intro (by first | omega | (intros; first | omega | (refine ⟨by omega, ?_⟩; simp_all; done) | (simp_all; done) | (simp_all; omega))) fun _ => ?_; (try simp ))
            refine LoopK.by (ι := Nat) (fun i => ⟨[(9, iv i), (8, iv 0), (7, .sl 1003 3 0 2), (0, tabV t), (1, ints to)], (1003, some ⟨1, namR t 2, 3, true⟩) :: rowQ t to 2 0 i⟩) (fun i => (el t 0).length - i) (fun i => i ≤ (el t 0).length) 0 (Nat.zero_le _) (by simp [namR, rowQ, range_succ', hm0, leEls_refl]) ?_
            intro i Q4 hi hq4 he4 hr4
            have hml := mixR_len (renF to) (el t 0) i
            simp [namR, rowQ, range_succ']
            by_cases h7 : i < (el t 0).length
            · have h7' : (i : Int) < (el t 0).length := by omega
              obtain ⟨x, hx, hxl⟩ := hval 0 i (by omega) h7
              have hme := mixR_el (renF to) h7
              rw [hx] at hme
              have h7m : i < (mixR (renF to) (el t 0) i).length := by omega
              have hms : (List.map iv (mixR (renF to) (el t 0) i)).set i (AV.raw (.int .i64 (el to x))) = List.map iv (mixR (renF to) (el t 0) (i + 1)) := by
                rw [← mixR_set (renF to) h7, List.map_set, hx]; rfl
              have hjt : 0 < t.length := by omega
              try simp [h7, h7', h7m, hml, hme, hx, hxl, hms, hjt]
              repeat (refine PreK.intro (by first | omega | (intros; first | omega | (refine ⟨by omega, ?_⟩; simp_all; done) | (simp_all; done) | (simp_all; omega))) fun _ => ?_; (try simp [h7, h7', h7m, hml, hme, hx, hxl, hms, hjt]))
              refine CondK.tt ?_
              try simp 
              try simp [h7, h7', h7m, hml, hme, hx, hxl, hms, hjt]
              repeat (refine PreK.intro (by first | omega | (intros; first | omega | (refine ⟨by omega, ?_⟩; simp_all; done) | (simp_all; done) | (simp_all; omega))) fun _ => ?_; (try simp [h7, h7', h7m, hml, hme, hx, hxl, hms, hjt]))
              exact hq4 (i + 1) _ (by omega) (by omega) (by simp [namR, rowQ, range_succ', leEls_refl])
            · have h7' : ¬ (i : Int) < (el t 0).length := by omega
              have hie : i = (el t 0).length := by omega
              subst hie
              have hma := mixR_all (renF to) (el t 0)
              try simp 
              repeat (refine PreK.intro (by first | omega | (intros; first | omega | (refine ⟨by omega, ?_⟩; simp_all; done) | (simp_all; done) | (simp_all; omega))) fun _ => ?_; (try simp ))
              refine CondK.ff ?_
              try simp 
              apply he4
              try simp 
              repeat (refine PreK.intro (by first | omega | (intros; first | omega | (refine ⟨by omega, ?_⟩; simp_all; done) | (simp_all; done) | (simp_all; omega))) fun _ => ?_; (try simp ))
              exact hq2 1 _ (by omega) (by omega) (by simp [namR, rowR, range_succ', hma, leEls_refl])
          · simp at h6
        · obtain ⟨hl1, hl2⟩ := hwl 1 (by omega)
          have hm0 := mixR_zero (renF to) (el t 1)
          simp [namR, rowR, range_succ']
          try simp 
          repeat (refine PreK.intro (by first | omega | (intros; first | omega | (refine ⟨by omega, ?_⟩; simp_all; done) | (simp_all; done) | (simp_all; omega))) fun _ => ?_; (try simp ))
          refine CondK.intro (fun h6 => ?_) (fun h6 => ?_)
          · try simp 
            repeat (refine PreK.intro (by first | omega | (intros; first | omega | (refine ⟨by omega, ?_⟩; simp_all; done) | (simp_all; done) | (simp_all; omega))) fun _ => ?_; (try simp ))
            refine LoopK.by (ι := Nat) (fun i => ⟨[(9, iv i), (8, iv 1), (7, .sl 1003 3 0 2), (0, tabV t), (1, ints to)], (1003, some ⟨1, namR t 2, 3, true⟩) :: rowQ t to 2 1 i⟩) (fun i => (el t 1).length - i) (fun i => i ≤ (el t 1).length) 0 (Nat.zero_le _) (by simp [namR, rowQ, range_succ', hm0, leEls_refl]) ?_
            intro i Q4 hi hq4 he4 hr4
            have hml := mixR_len (renF to) (el t 1) i
            simp [namR, rowQ, range_succ']
            by_cases h7 : i < (el t 1).length
            · have h7' : (i : Int) < (el t 1).length := by omega
              obtain ⟨x, hx, hxl⟩ := hval 1 i (by omega) h7
              have hme := mixR_el (renF to) h7
              rw [hx] at hme
              have h7m : i < (mixR (renF to) (el t 1) i).length := by omega
              have hms : (List.map iv (mixR (renF to) (el t 1) i)).set i (AV.raw (.int .i64 (el to x))) = List.map iv (mixR (renF to) (el t 1) (i + 1)) := by
                rw [← mixR_set (renF to) h7, List.map_set, hx]; rfl
              have hjt : 1 < t.length := by omega
              try simp [h7, h7', h7m, hml, hme, hx, hxl, hms, hjt]
              repeat (refine PreK.intro (by first | omega | (intros; first | omega | (refine ⟨by omega, ?_⟩; simp_all; done) | (simp_all; done) | (simp_all; omega))) fun _ => ?_; (try simp [h7, h7', h7m, hml, hme, hx, hxl, hms, hjt]))
              refine CondK.tt ?_
              try simp 
              try simp [h7, h7', h7m, hml, hme, hx, hxl, hms, hjt]
              repeat (refine PreK.intro (by first | omega | (intros; first | omega | (refine ⟨by omega, ?_⟩; simp_all; done) | (simp_all; done) | (simp_all; omega))) fun _ => ?_; (try simp [h7, h7', h7m, hml, hme, hx, hxl, hms, hjt]))
              exact hq4 (i + 1) _ (by omega) (by omega) (by simp [namR, rowQ, range_succ', leEls_refl])
            · have h7' : ¬ (i : Int) < (el t 1).length := by omega
              have hie : i = (el t 1).length := by omega
              subst hie
              have hma := mixR_all (renF to) (el t 1)
              try simp 
              repeat (refine PreK.intro (by first | omega | (intros; first | omega | (refine ⟨by omega, ?_⟩; simp_all; done) | (simp_all; done) | (simp_all; omega))) fun _ => ?_; (try simp ))
              refine CondK.ff ?_
              try simp 
              apply he4
              try simp 
              repeat (refine PreK.intro (by first | omega | (intros; first | omega | (refine ⟨by omega, ?_⟩; simp_all; done) | (simp_all; done) | (simp_all; omega))) fun _ => ?_; (try simp ))
              exact hq2 2 _ (by omega) (by omega) (by simp [namR, rowR, range_succ', hma, leEls_refl])
          · simp at h6
        · simp [namR, rowR, range_succ']
          try simp 
          repeat (refine PreK.intro (by first | omega | (intros; first | omega | (refine ⟨by omega, ?_⟩; simp_all; done) | (simp_all; done) | (simp_all; omega))) fun _ => ?_; (try simp ))
          refine CondK.intro (fun h6 => ?_) (fun h6 => ?_)
          · simp at h6
          · apply he2
            try simp 
            repeat (refine PreK.intro (by first | omega | (intros; first | omega | (refine ⟨by omega, ?_⟩; simp_all; done) | (simp_all; done) | (simp_all; omega))) fun _ => ?_; (try simp ))
            refine ⟨[1100, 1101, 1003], ?_⟩
            have htk : ∀ (l : List Int) (f : Int → AV), List.take l.length (List.map f l) = List.map f l := fun l f => List.take_of_length_le (by simp)
            rw [hrr]
            simp [namR, rowR, range_succ', htk]
      · rw [hn] at hcm hwl hval hrr
        simp only [rowN, rowM] at hcm
        refine CallX.mem 1000 hcm (by simp) (by simp [range_succ']) (by simp [range_succ']) ?_
        simp [range_succ']
        try simp 
        repeat (refine PreK.intro (by first | omega | (intros; first | omega | (refine ⟨by omega, ?_⟩; simp_all; done) | (simp_all; done) | (simp_all; omega))) fun _ => ?_; (try simp ))
        refine LoopK.by (ι := Nat) (fun k => ⟨[(8, iv k), (7, .sl 1003 4 0 3), (0, tabV t), (1, ints to)], (1003, some ⟨1, namR t 3, 4, true⟩) :: rowR t to 3 k⟩) (fun k => 3 - k) (fun k => k ≤ 3) 0 (Nat.zero_le _) (by simp [namR, rowR, range_succ', leEls_refl]) ?_
        intro k Q2 hk hq2 he2 hr2
        have hk6 : k = 0 ∨ k = 1 ∨ k = 2 ∨ k = 3 := by omega
        rcases hk6 with rfl | rfl | rfl | rfl
        · obtain ⟨hl1, hl2⟩ := hwl 0 (by omega)
          have hm0 := mixR_zero (renF to) (el t 0)
          simp [namR, rowR, range_succ']
          try simp 
          repeat (refine PreK.intro (by first | omega | (intros; first | omega | (refine ⟨by omega, ?_⟩; simp_all; done) | (simp_all; done) | (simp_all; omega))) fun _ => ?_; (try simp ))
          refine CondK.intro (fun h6 => ?_) (fun h6 => ?_)
          · try simp 
            repeat (refine PreK.intro (by first | omega | (intros; first | omega | (refine ⟨by omega, ?_⟩; simp_all; done) | (simp_all; done) | (simp_all; omega))) fun _ => ?_; (try simp ))
            refine LoopK.by (ι := Nat) (fun i => ⟨[(9, iv i), (8, iv 0), (7, .sl 1003 4 0 3), (0, tabV t), (1, ints to)], (1003, some ⟨1, namR t 3, 4, true⟩) :: rowQ t to 3 0 i⟩) (fun i => (el t 0).length - i) (fun i => i ≤ (el t 0).length) 0 (Nat.zero_le _) (by simp [namR, rowQ, range_succ', hm0, leEls_refl]) ?_
            intro i Q4 hi hq4 he4 hr4
            have hml := mixR_len (renF to) (el t 0) i
            simp [namR, rowQ, range_succ']
            by_cases h7 : i < (el t 0).length
            · have h7' : (i : Int) < (el t 0).length := by omega
              obtain ⟨x, hx, hxl⟩ := hval 0 i (by omega) h7
              have hme := mixR_el (renF to) h7
              rw [hx] at hme
              have h7m : i < (mixR (renF to) (el t 0) i).length := by omega
              have hms : (List.map iv (mixR (renF to) (el t 0) i)).set i (AV.raw (.int .i64 (el to x))) = List.map iv (mixR (renF to) (el t 0) (i + 1)) := by
                rw [← mixR_set (renF to) h7, List.map_set, hx]; rfl
              have hjt : 0 < t.length := by omega
              try simp [h7, h7', h7m, hml, hme, hx, hxl, hms, hjt]
              repeat (refine PreK.intro (by first | omega | (intros; first | omega | (refine ⟨by omega, ?_⟩; simp_all; done) | (simp_all; done) | (simp_all; omega))) fun _ => ?_; (try simp [h7, h7', h7m, hml, hme, hx, hxl, hms, hjt]))
              refine CondK.tt ?_
              try simp 
              try simp [h7, h7', h7m, hml, hme, hx, hxl, hms, hjt]
              repeat (refine PreK.intro (by first | omega | (intros; first | omega | (refine ⟨by omega, ?_⟩; simp_all; done) | (simp_all; done) | (simp_all; omega))) fun _ => ?_; (try simp [h7, h7', h7m, hml, hme, hx, hxl, hms, hjt]))
              exact hq4 (i + 1) _ (by omega) (by omega) (by simp [namR, rowQ, range_succ', leEls_refl])
            · have h7' : ¬ (i : Int) < (el t 0).length := by omega
              have hie : i = (el t 0).length := by omega
              subst hie
              have hma := mixR_all (renF to) (el t 0)
              try simp 
              repeat (refine PreK.intro (by first | omega | (intros; first | omega | (refine ⟨by omega, ?_⟩; simp_all; done) | (simp_all; done) | (simp_all; omega))) fun _ => ?_; (try simp ))
              refine CondK.ff ?_
              try simp 
              apply he4
              try simp 
              repeat (refine PreK.intro (by first | omega | (intros; first | omega | (refine ⟨by omega, ?_⟩; simp_all; done) | (simp_all; done) | (simp_all; omega))) fun _ => ?_; (try simp ))
              exact hq2 1 _ (by omega) (by omega) (by simp [namR, rowR, range_succ', hma, leEls_refl])
          · simp at h6
        · obtain ⟨hl1, hl2⟩ := hwl 1 (by omega)
          have hm0 := mixR_zero (renF to) (el t 1)
          simp [namR, rowR, range_succ']
          try simp 
          repeat (refine PreK.intro (by first | omega | (intros; first | omega | (refine ⟨by omega, ?_⟩; simp_all; done) | (simp_all; done) | (simp_all; omega))) fun _ => ?_; (try simp ))
          refine CondK.intro (fun h6 => ?_) (fun h6 => ?_)
          · try simp 
            repeat (refine PreK.intro (by first | omega | (intros; first | omega | (refine ⟨by omega, ?_⟩; simp_all; done) | (simp_all; done) | (simp_all; omega))) fun _ => ?_; (try simp ))
            refine LoopK.by (ι := Nat) (fun i => ⟨[(9, iv i), (8, iv 1), (7, .sl 1003 4 0 3), (0, tabV t), (1, ints to)], (1003, some ⟨1, namR t 3, 4, true⟩) :: rowQ t to 3 1 i⟩) (fun i => (el t 1).length - i) (fun i => i ≤ (el t 1).length) 0 (Nat.zero_le _) (by simp [namR, rowQ, range_succ', hm0, leEls_refl]) ?_
            intro i Q4 hi hq4 he4 hr4
            have hml := mixR_len (renF to) (el t 1) i
            simp [namR, rowQ, range_succ']
            by_cases h7 : i < (el t 1).length
            · have h7' : (i : Int) < (el t 1).length := by omega
              obtain ⟨x, hx, hxl⟩ := hval 1 i (by omega) h7
              have hme := mixR_el (renF to) h7
              rw [hx] at hme
              have h7m : i < (mixR (renF to) (el t 1) i).length := by omega
              have hms : (List.map iv (mixR (renF to) (el t 1) i)).set i (AV.raw (.int .i64 (el to x))) = List.map iv (mixR (renF to) (el t 1) (i + 1)) := by
                rw [← mixR_set (renF to) h7, List.map_set, hx]; rfl
              have hjt : 1 < t.length := by omega
              try simp [h7, h7', h7m, hml, hme, hx, hxl, hms, hjt]
              repeat (refine PreK.intro (by first | omega | (intros; first | omega | (refine ⟨by omega, ?_⟩; simp_all; done) | (simp_all; done) | (simp_all; omega))) fun _ => ?_; (try simp [h7, h7', h7m, hml, hme, hx, hxl, hms, hjt]))
              refine CondK.tt ?_
              try simp 
              try simp [h7, h7', h7m, hml, hme, hx, hxl, hms, hjt]
              repeat (refine PreK.intro (by first | omega | (intros; first | omega | (refine ⟨by omega, ?_⟩; simp_all; done) | (simp_all; done) | (simp_all; omega))) fun _ => ?_; (try simp [h7, h7', h7m, hml, hme, hx, hxl, hms, hjt]))
              exact hq4 (i + 1) _ (by omega) (by omega) (by simp [namR, rowQ, range_succ', leEls_refl])
            · have h7' : ¬ (i : Int) < (el t 1).length := by omega
              have hie : i = (el t 1).length := by omega
              subst hie
              have hma := mixR_all (renF to) (el t 1)
              try simp 
              repeat (refine PreK.intro (by first | omega | (intros; first | omega | (refine ⟨by omega, ?_⟩; simp_all; done) | (simp_all; done) | (simp_all; omega))) fun _ => ?_; (try simp ))
              refine CondK.ff ?_
              try simp 
              apply he4
              try simp 
              repeat (refine PreK.intro (by first | omega | (intros; first | omega | (refine ⟨by omega, ?_⟩; simp_all; done) | (simp_all; done) | (simp_all; omega))) fun _ => ?_; (try simp ))
              exact hq2 2 _ (by omega) (by omega) (by simp [namR, rowR, range_succ', hma, leEls_refl])
          · simp at h6
        · obtain ⟨hl1, hl2⟩ := hwl 2 (by omega)
          have hm0 := mixR_zero (renF to) (el t 2)
          simp [namR, rowR, range_succ']
          try simp 
          repeat (refine PreK.intro (by first | omega | (intros; first | omega | (refine ⟨by omega, ?_⟩; simp_all; done) | (simp_all; done) | (simp_all; omega))) fun _ => ?_; (try simp ))
          refine CondK.intro (fun h6 => ?_) (fun h6 => ?_)
          · try simp 
            repeat (refine PreK.intro (by first | omega | (intros; first | omega | (refine ⟨by omega, ?_⟩; simp_all; done) | (simp_all; done) | (simp_all; omega))) fun _ => ?_; (try simp ))
            refine LoopK.by (ι := Nat) (fun i => ⟨[(9, iv i), (8, iv 2), (7, .sl 1003 4 0 3), (0, tabV t), (1, ints to)], (1003, some ⟨1, namR t 3, 4, true⟩) :: rowQ t to 3 2 i⟩) (fun i => (el t 2).length - i) (fun i => i ≤ (el t 2).length) 0 (Nat.zero_le _) (by simp [namR, rowQ, range_succ', hm0, leEls_refl]) ?_
            intro i Q4 hi hq4 he4 hr4
            have hml := mixR_len (renF to) (el t 2) i
            simp [namR, rowQ, range_succ']
            by_cases h7 : i < (el t 2).length
            · have h7' : (i : Int) < (el t 2).length := by omega
              obtain ⟨x, hx, hxl⟩ := hval 2 i (by omega) h7
              have hme := mixR_el (renF to) h7
              rw [hx] at hme
              have h7m : i < (mixR (renF to) (el t 2) i).length := by omega
              have hms : (List.map iv (mixR (renF to) (el t 2) i)).set i (AV.raw (.int .i64 (el to x))) = List.map iv (mixR (renF to) (el t 2) (i + 1)) := by
                rw [← mixR_set (renF to) h7, List.map_set, hx]; rfl
              have hjt : 2 < t.length := by omega
              try simp [h7, h7', h7m, hml, hme, hx, hxl, hms, hjt]
              repeat (refine PreK.intro (by first | omega | (intros; first | omega | (refine ⟨by omega, ?_⟩; simp_all; done) | (simp_all; done) | (simp_all; omega))) fun _ => ?_; (try simp [h7, h7', h7m, hml, hme, hx, hxl, hms, hjt]))
              refine CondK.tt ?_
              try simp 
              try simp [h7, h7', h7m, hml, hme, hx, hxl, hms, hjt]
              repeat (refine PreK.intro (by first | omega | (intros; first | omega | (refine ⟨by omega, ?_⟩; simp_all; done) | (simp_all; done) | (simp_all; omega))) fun _ => ?_; (try simp [h7, h7', h7m, hml, hme, hx, hxl, hms, hjt]))
              exact hq4 (i + 1) _ (by omega) (by omega) (by simp [namR, rowQ, range_succ', leEls_refl])
            · have h7' : ¬ (i : Int) < (el t 2).length := by omega
              have hie : i = (el t 2).length := by omega
              subst hie
              have hma := mixR_all (renF to) (el t 2)
              try simp 
              repeat (refine PreK.intro (by first | omega | (intros; first | omega | (refine ⟨by omega, ?_⟩; simp_all; done) | (simp_all; done) | (simp_all; omega))) fun _ => ?_; (try simp ))
              refine CondK.ff ?_
              try simp 
              apply he4
              try simp 
              repeat (refine PreK.intro (by first | omega | (intros; first | omega | (refine ⟨by omega, ?_⟩; simp_all; done) | (simp_all; done) | (simp_all; omega))) fun _ => ?_; (try simp ))
              exact hq2 3 _ (by omega) (by omega) (by simp [namR, rowR, range_succ', hma, leEls_refl])
          · simp at h6
        · simp [namR, rowR, range_succ']
          try simp 
          repeat (refine PreK.intro (by first | omega | (intros; first | omega | (refine ⟨by omega, ?_⟩; simp_all; done) | (simp_all; done) | (simp_all; omega))) fun _ => ?_; (try simp ))
          refine CondK.intro (fun h6 => ?_) (fun h6 => ?_)
          · simp at h6
          · apply he2
            try simp 
            repeat (refine PreK.intro (by first | omega | (intros; first | omega | (refine ⟨by omega, ?_⟩; simp_all; done) | (simp_all; done) | (simp_all; omega))) fun _ => ?_; (try simp ))
            refine ⟨[1100, 1101, 1102, 1003], ?_⟩
            have htk : ∀ (l : List Int) (f : Int → AV), List.take l.length (List.map f l) = List.map f l := fun l f => List.take_of_length_le (by simp)
            rw [hrr]
            simp [namR, rowR, range_succ', htk]
      · rw [hn] at hcm hwl hval hrr
        simp only [rowN, rowM] at hcm
        refine CallX.mem 1000 hcm (by simp) (by simp [range_succ']) (by simp [range_succ']) ?_
        simp [range_succ']
        try simp 
        repeat (refine PreK.intro (by first | omega | (intros; first | omega | (refine ⟨by omega, ?_⟩; simp_all; done) | (simp_all; done) | (simp_all; omega))) fun _ => ?_; (try simp ))
        refine LoopK.by (ι := Nat) (fun k => ⟨[(8, iv k), (7, .sl 1003 5 0 4), (0, tabV t), (1, ints to)], (1003, some ⟨1, namR t 4, 5, true⟩) :: rowR t to 4 k⟩) (fun k => 4 - k) (fun k => k ≤ 4) 0 (Nat.zero_le _) (by simp [namR, rowR, range_succ', leEls_refl]) ?_
        intro k Q2 hk hq2 he2 hr2
        have hk6 : k = 0 ∨ k = 1 ∨ k = 2 ∨ k = 3 ∨ k = 4 := by omega
        rcases hk6 with rfl | rfl | rfl | rfl | rfl
        · obtain ⟨hl1, hl2⟩ := hwl 0 (by omega)
          have hm0 := mixR_zero (renF to) (el t 0)
          simp [namR, rowR, range_succ']
          try simp 
          repeat (refine PreK.intro (by first | omega | (intros; first | omega | (refine ⟨by omega, ?_⟩; simp_all; done) | (simp_all; done) | (simp_all; omega))) fun _ => ?_; (try simp ))
          refine CondK.intro (fun h6 => ?_) (fun h6 => ?_)
          · try simp 
            repeat (refine PreK.intro (by first | omega | (intros; first | omega | (refine ⟨by omega, ?_⟩; simp_all; done) | (simp_all; done) | (simp_all; omega))) fun _ => ?_; (try simp ))
            refine LoopK.by (ι := Nat) (fun i => ⟨[(9, iv i), (8, iv 0), (7, .sl 1003 5 0 4), (0, tabV t), (1, ints to)], (1003, some ⟨1, namR t 4, 5, true⟩) :: rowQ t to 4 0 i⟩) (fun i => (el t 0).length - i) (fun i => i ≤ (el t 0).length) 0 (Nat.zero_le _) (by simp [namR, rowQ, range_succ', hm0, leEls_refl]) ?_
            intro i Q4 hi hq4 he4 hr4
            have hml := mixR_len (renF to) (el t 0) i
            simp [namR, rowQ, range_succ']
            by_cases h7 : i < (el t 0).length
            · have h7' : (i : Int) < (el t 0).length := by omega
              obtain ⟨x, hx, hxl⟩ := hval 0 i (by omega) h7
              have hme := mixR_el (renF to) h7
              rw [hx] at hme
              have h7m : i < (mixR (renF to) (el t 0) i).length := by omega
              have hms : (List.map iv (mixR (renF to) (el t 0) i)).set i (AV.raw (.int .i64 (el to x))) = List.map iv (mixR (renF to) (el t 0) (i + 1)) := by
                rw [← mixR_set (renF to) h7, List.map_set, hx]; rfl
              have hjt : 0 < t.length := by omega
              try simp [h7, h7', h7m, hml, hme, hx, hxl, hms, hjt]
              repeat (refine PreK.intro (by first | omega | (intros; first | omega | (refine ⟨by omega, ?_⟩; simp_all; done) | (simp_all; done) | (simp_all; omega))) fun _ => ?_; (try simp [h7, h7', h7m, hml, hme, hx, hxl, hms, hjt]))
              refine CondK.tt ?_
              try simp 
              try simp [h7, h7', h7m, hml, hme, hx, hxl, hms, hjt]
              repeat (refine PreK.intro (by first | omega | (intros; first | omega | (refine ⟨by omega, ?_⟩; simp_all; done) | (simp_all; done) | (simp_all; omega))) fun _ => ?_; (try simp [h7, h7', h7m, hml, hme, hx, hxl, hms, hjt]))
              exact hq4 (i + 1) _ (by omega) (by omega) (by simp [namR, rowQ, range_succ', leEls_refl])
            · have h7' : ¬ (i : Int) < (el t 0).length := by omega
              have hie : i = (el t 0).length := by omega
              subst hie
              have hma := mixR_all (renF to) (el t 0)
              try simp 
              repeat (refine PreK.intro (by first | omega | (intros; first | omega | (refine ⟨by omega, ?_⟩; simp_all; done) | (simp_all; done) | (simp_all; omega))) fun _ => ?_; (try simp ))
              refine CondK.ff ?_
              try simp 
              apply he4
              try simp 
              repeat (refine PreK.intro (by first | omega | (intros; first | omega | (refine ⟨by omega, ?_⟩; simp_all; done) | (simp_all; done) | (simp_all; omega))) fun _ => ?_; (try simp ))
              exact hq2 1 _ (by omega) (by omega) (by simp [namR, rowR, range_succ', hma, leEls_refl])
          · simp at h6
        · obtain ⟨hl1, hl2⟩ := hwl 1 (by omega)
          have hm0 := mixR_zero (renF to) (el t 1)
          simp [namR, rowR, range_succ']
          try simp 
          repeat (refine PreK.intro (by first | omega | (intros; first | omega | (refine ⟨by omega, ?_⟩; simp_all; done) | (simp_all; done) | (simp_all; omega))) fun _ => ?_; (try simp ))
          refine CondK.intro (fun h6 => ?_) (fun h6 => ?_)
          · try simp 
            repeat (refine PreK.intro (by first | omega | (intros; first | omega | (refine ⟨by omega, ?_⟩; simp_all; done) | (simp_all; done) | (simp_all; omega))) fun _ => ?_; (try simp ))
            refine LoopK.by (ι := Nat) (fun i => ⟨[(9, iv i), (8, iv 1), (7, .sl 1003 5 0 4), (0, tabV t), (1, ints to)], (1003, some ⟨1, namR t 4, 5, true⟩) :: rowQ t to 4 1 i⟩) (fun i => (el t 1).length - i) (fun i => i ≤ (el t 1).length) 0 (Nat.zero_le _) (by simp [namR, rowQ, range_succ', hm0, leEls_refl]) ?_
            intro i Q4 hi hq4 he4 hr4
            have hml := mixR_len (renF to) (el t 1) i
            simp [namR, rowQ, range_succ']
            by_cases h7 : i < (el t 1).length
            · have h7' : (i : Int) < (el t 1).length := by omega
              obtain ⟨x, hx, hxl⟩ := hval 1 i (by omega) h7
              have hme := mixR_el (renF to) h7
              rw [hx] at hme
              have h7m : i < (mixR (renF to) (el t 1) i).length := by omega
              have hms : (List.map iv (mixR (renF to) (el t 1) i)).set i (AV.raw (.int .i64 (el to x))) = List.map iv (mixR (renF to) (el t 1) (i + 1)) := by
                rw [← mixR_set (renF to) h7, List.map_set, hx]; rfl
              have hjt : 1 < t.length := by omega
              try simp [h7, h7', h7m, hml, hme, hx, hxl, hms, hjt]
              repeat (refine PreK.intro (by first | omega | (intros; first | omega | (refine ⟨by omega, ?_⟩; simp_all; done) | (simp_all; done) | (simp_all; omega))) fun _ => ?_; (try simp [h7, h7', h7m, hml, hme, hx, hxl, hms, hjt]))
              refine CondK.tt ?_
              try simp 
              try simp [h7, h7', h7m, hml, hme, hx, hxl, hms, hjt]
              repeat (refine PreK.intro (by first | omega | (intros; first | omega | (refine ⟨by omega, ?_⟩; simp_all; done) | (simp_all; done) | (simp_all; omega))) fun _ => ?_; (try simp [h7, h7', h7m, hml, hme, hx, hxl, hms, hjt]))
              exact hq4 (i + 1) _ (by omega) (by omega) (by simp [namR, rowQ, range_succ', leEls_refl])
            · have h7' : ¬ (i : Int) < (el t 1).length := by omega
              have hie : i = (el t 1).length := by omega
              subst hie
              have hma := mixR_all (renF to) (el t 1)
              try simp 
              repeat (refine PreK.intro (by first | omega | (intros; first | omega | (refine ⟨by omega, ?_⟩; simp_all; done) | (simp_all; done) | (simp_all; omega))) fun _ => ?_; (try simp ))
              refine CondK.ff ?_
              try simp 
              apply he4
              try simp 
              repeat (refine PreK.intro (by first | omega | (intros; first | omega | (refine ⟨by omega, ?_⟩; simp_all; done) | (simp_all; done) | (simp_all; omega))) fun _ => ?_; (try simp ))
              exact hq2 2 _ (by omega) (by omega) (by simp [namR, rowR, range_succ', hma, leEls_refl])
          · simp at h6
        · obtain ⟨hl1, hl2⟩ := hwl 2 (by omega)
          have hm0 := mixR_zero (renF to) (el t 2)
          simp [namR, rowR, range_succ']
          try simp 
          repeat (refine PreK.intro (by first | omega | (intros; first | omega | (refine ⟨by omega, ?_⟩; simp_all; done) | (simp_all; done) | (simp_all; omega))) fun _ => ?_; (try simp ))
          refine CondK.intro (fun h6 => ?_) (fun h6 => ?_)
          · try simp 
            repeat (refine PreK.intro (by first | omega | (intros; first | omega | (refine ⟨by omega, ?_⟩; simp_all; done) | (simp_all; done) | (simp_all; omega))) fun _ => ?_; (try simp ))
            refine LoopK.by (ι := Nat) (fun i => ⟨[(9, iv i), (8, iv 2), (7, .sl 1003 5 0 4), (0, tabV t), (1, ints to)], (1003, some ⟨1, namR t 4, 5, true⟩) :: rowQ t to 4 2 i⟩) (fun i => (el t 2).length - i) (fun i => i ≤ (el t 2).length) 0 (Nat.zero_le _) (by simp [namR, rowQ, range_succ', hm0, leEls_refl]) ?_
            intro i Q4 hi hq4 he4 hr4
            have hml := mixR_len (renF to) (el t 2) i
            simp [namR, rowQ, range_succ']
            by_cases h7 : i < (el t 2).length
            · have h7' : (i : Int) < (el t 2).length := by omega
              obtain ⟨x, hx, hxl⟩ := hval 2 i (by omega) h7
              have hme := mixR_el (renF to) h7
              rw [hx] at hme
              have h7m : i < (mixR (renF to) (el t 2) i).length := by omega
              have hms : (List.map iv (mixR (renF to) (el t 2) i)).set i (AV.raw (.int .i64 (el to x))) = List.map iv (mixR (renF to) (el t 2) (i + 1)) := by
                rw [← mixR_set (renF to) h7, List.map_set, hx]; rfl
              have hjt : 2 < t.length := by omega
              try simp [h7, h7', h7m, hml, hme, hx, hxl, hms, hjt]
              repeat (refine PreK.intro (by first | omega | (intros; first | omega | (refine ⟨by omega, ?_⟩; simp_all; done) | (simp_all; done) | (simp_all; omega))) fun _ => ?_; (try simp [h7, h7', h7m, hml, hme, hx, hxl, hms, hjt]))
              refine CondK.tt ?_
              try simp 
              try simp [h7, h7', h7m, hml, hme, hx, hxl, hms, hjt]
              repeat (refine PreK.intro (by first | omega | (intros; first | omega | (refine ⟨by omega, ?_⟩; simp_all; done) | (simp_all; done) | (simp_all; omega))) fun _ => ?_; (try simp [h7, h7', h7m, hml, hme, hx, hxl, hms, hjt]))
              exact hq4 (i + 1) _ (by omega) (by omega) (by simp [namR, rowQ, range_succ', leEls_refl])
            · have h7' : ¬ (i : Int) < (el t 2).length := by omega
              have hie : i = (el t 2).length := by omega
              subst hie
              have hma := mixR_all (renF to) (el t 2)
              try simp 
              repeat (refine PreK.intro (by first | omega | (intros; first | omega | (refine ⟨by omega, ?_⟩; simp_all; done) | (simp_all; done) | (simp_all; omega))) fun _ => ?_; (try simp ))
              refine CondK.ff ?_
              try simp 
              apply he4
              try simp 
              repeat (refine PreK.intro (by first | omega | (intros; first | omega | (refine ⟨by omega, ?_⟩; simp_all; done) | (simp_all; done) | (simp_all; omega))) fun _ => ?_; (try simp ))
              exact hq2 3 _ (by omega) (by omega) (by simp [namR, rowR, range_succ', hma, leEls_refl])
          · simp at h6
        · obtain ⟨hl1, hl2⟩ := hwl 3 (by omega)
          have hm0 := mixR_zero (renF to) (el t 3)
          simp [namR, rowR, range_succ']
          try simp 
          repeat (refine PreK.intro (by first | omega | (intros; first | omega | (refine ⟨by omega, ?_⟩; simp_all; done) | (simp_all; done) | (simp_all; omega))) fun _ => ?_; (try simp ))
          refine CondK.intro (fun h6 => ?_) (fun h6 => ?_)
          · try simp 
            repeat (refine PreK.intro (by first | omega | (intros; first | omega | (refine ⟨by omega, ?_⟩; simp_all; done) | (simp_all; done) | (simp_all; omega))) fun _ => ?_; (try simp ))
            refine LoopK.by (ι := Nat) (fun i => ⟨[(9, iv i), (8, iv 3), (7, .sl 1003 5 0 4), (0, tabV t), (1, ints to)], (1003, some ⟨1, namR t 4, 5, true⟩) :: rowQ t to 4 3 i⟩) (fun i => (el t 3).length - i) (fun i => i ≤ (el t 3).length) 0 (Nat.zero_le _) (by simp [namR, rowQ, range_succ', hm0, leEls_refl]) ?_
            intro i Q4 hi hq4 he4 hr4
            have hml := mixR_len (renF to) (el t 3) i
            simp [namR, rowQ, range_succ']
            by_cases h7 : i < (el t 3).length
            · have h7' : (i : Int) < (el t 3).length := by omega
              obtain ⟨x, hx, hxl⟩ := hval 3 i (by omega) h7
              have hme := mixR_el (renF to) h7
              rw [hx] at hme
              have h7m : i < (mixR (renF to) (el t 3) i).length := by omega
              have hms : (List.map iv (mixR (renF to) (el t 3) i)).set i (AV.raw (.int .i64 (el to x))) = List.map iv (mixR (renF to) (el t 3) (i + 1)) := by
                rw [← mixR_set (renF to) h7, List.map_set, hx]; rfl
              have hjt : 3 < t.length := by omega
              try simp [h7, h7', h7m, hml, hme, hx, hxl, hms, hjt]
              repeat (refine PreK.intro (by first | omega | (intros; first | omega | (refine ⟨by omega, ?_⟩; simp_all; done) | (simp_all; done) | (simp_all; omega))) fun _ => ?_; (try simp [h7, h7', h7m, hml, hme, hx, hxl, hms, hjt]))
              refine CondK.tt ?_
              try simp 
              try simp [h7, h7', h7m, hml, hme, hx, hxl, hms, hjt]
              repeat (refine PreK.intro (by first | omega | (intros; first | omega | (refine ⟨by omega, ?_⟩; simp_all; done) | (simp_all; done) | (simp_all; omega))) fun _ => ?_; (try simp [h7, h7', h7m, hml, hme, hx, hxl, hms, hjt]))
              exact hq4 (i + 1) _ (by omega) (by omega) (by simp [namR, rowQ, range_succ', leEls_refl])
            · have h7' : ¬ (i : Int) < (el t 3).length := by omega
              have hie : i = (el t 3).length := by omega
              subst hie
              have hma := mixR_all (renF to) (el t 3)
              try simp 
              repeat (refine PreK.intro (by first | omega | (intros; first | omega | (refine ⟨by omega, ?_⟩; simp_all; done) | (simp_all; done) | (simp_all; omega))) fun _ => ?_; (try simp ))
              refine CondK.ff ?_
              try simp 
              apply he4
              try simp 
              repeat (refine PreK.intro (by first | omega | (intros; first | omega | (refine ⟨by omega, ?_⟩; simp_all; done) | (simp_all; done) | (simp_all; omega))) fun _ => ?_; (try simp ))
              exact hq2 4 _ (by omega) (by omega) (by simp [namR, rowR, range_succ', hma, leEls_refl])
          · simp at h6
        · simp [namR, rowR, range_succ']
          try simp 
          repeat (refine PreK.intro (by first | omega | (intros; first | omega | (refine ⟨by omega, ?_⟩; simp_all; done) | (simp_all; done) | (simp_all; omega))) fun _ => ?_; (try simp ))
          refine CondK.intro (fun h6 => ?_) (fun h6 => ?_)
          · simp at h6
          · apply he2
            try simp 
            repeat (refine PreK.intro (by first | omega | (intros; first | omega | (refine ⟨by omega, ?_⟩; simp_all; done) | (simp_all; done) | (simp_all; omega))) fun _ => ?_; (try simp ))
            refine ⟨[1100, 1101, 1102, 1103, 1003], ?_⟩
            have htk : ∀ (l : List Int) (f : Int → AV), List.take l.length (List.map f l) = List.map f l := fun l f => List.take_of_length_le (by simp)
            rw [hrr]
            simp [namR, rowR, range_succ', htk]
      · rw [hn] at hcm hwl hval hrr
        simp only [rowN, rowM] at hcm
        refine CallX.mem 1000 hcm (by simp) (by simp [range_succ']) (by simp [range_succ']) ?_
        simp [range_succ']
        try simp 
        repeat (refine PreK.intro (by first | omega | (intros; first | omega | (refine ⟨by omega, ?_⟩; simp_all; done) | (simp_all; done) | (simp_all; omega))) fun _ => ?_; (try simp ))
        refine LoopK.by (ι := Nat) (fun k => ⟨[(8, iv k), (7, .sl 1003 6 0 5), (0, tabV t), (1, ints to)], (1003, some ⟨1, namR t 5, 6, true⟩) :: rowR t to 5 k⟩) (fun k => 5 - k) (fun k => k ≤ 5) 0 (Nat.zero_le _) (by simp [namR, rowR, range_succ', leEls_refl]) ?_
        intro k Q2 hk hq2 he2 hr2
        have hk6 : k = 0 ∨ k = 1 ∨ k = 2 ∨ k = 3 ∨ k = 4 ∨ k = 5 := by omega
        rcases hk6 with rfl | rfl | rfl | rfl | rfl | rfl
        · obtain ⟨hl1, hl2⟩ := hwl 0 (by omega)
          have hm0 := mixR_zero (renF to) (el t 0)
          simp [namR, rowR, range_succ']
          try simp 
          repeat (refine PreK.intro (by first | omega | (intros; first | omega | (refine ⟨by omega, ?_⟩; simp_all; done) | (simp_all; done) | (simp_all; omega))) fun _ => ?_; (try simp ))
          refine CondK.intro (fun h6 => ?_) (fun h6 => ?_)
          · try simp 
            repeat (refine PreK.intro (by first | omega | (intros; first | omega | (refine ⟨by omega, ?_⟩; simp_all; done) | (simp_all; done) | (simp_all; omega))) fun _ => ?_; (try simp ))
            refine LoopK.by (ι := Nat) (fun i => ⟨[(9, iv i), (8, iv 0), (7, .sl 1003 6 0 5), (0, tabV t), (1, ints to)], (1003, some ⟨1, namR t 5, 6, true⟩) :: rowQ t to 5 0 i⟩) (fun i => (el t 0).length - i) (fun i => i ≤ (el t 0).length) 0 (Nat.zero_le _) (by simp [namR, rowQ, range_succ', hm0, leEls_refl]) ?_
            intro i Q4 hi hq4 he4 hr4
            have hml := mixR_len (renF to) (el t 0) i
            simp [namR, rowQ, range_succ']
            by_cases h7 : i < (el t 0).length
            · have h7' : (i : Int) < (el t 0).length := by omega
              obtain ⟨x, hx, hxl⟩ := hval 0 i (by omega) h7
              have hme := mixR_el (renF to) h7
              rw [hx] at hme
              have h7m : i < (mixR (renF to) (el t 0) i).length := by omega
              have hms : (List.map iv (mixR (renF to) (el t 0) i)).set i (AV.raw (.int .i64 (el to x))) = List.map iv (mixR (renF to) (el t 0) (i + 1)) := by
                rw [← mixR_set (renF to) h7, List.map_set, hx]; rfl
              have hjt : 0 < t.length := by omega
              try simp [h7, h7', h7m, hml, hme, hx, hxl, hms, hjt]
              repeat (refine PreK.intro (by first | omega | (intros; first | omega | (refine ⟨by omega, ?_⟩; simp_all; done) | (simp_all; done) | (simp_all; omega))) fun _ => ?_; (try simp [h7, h7', h7m, hml, hme, hx, hxl, hms, hjt]))
              refine CondK.tt ?_
              try simp 
              try simp [h7, h7', h7m, hml, hme, hx, hxl, hms, hjt]
              repeat (refine PreK.intro (by first | omega | (intros; first | omega | (refine ⟨by omega, ?_⟩; simp_all; done) | (simp_all; done) | (simp_all; omega))) fun _ => ?_; (try simp [h7, h7', h7m, hml, hme, hx, hxl, hms, hjt]))
              exact hq4 (i + 1) _ (by omega) (by omega) (by simp [namR, rowQ, range_succ', leEls_refl])
            · have h7' : ¬ (i : Int) < (el t 0).length := by omega
              have hie : i = (el t 0).length := by omega
              subst hie
              have hma := mixR_all (renF to) (el t 0)
              try simp 
              repeat (refine PreK.intro (by first | omega | (intros; first | omega | (refine ⟨by omega, ?_⟩; simp_all; done) | (simp_all; done) | (simp_all; omega))) fun _ => ?_; (try simp ))
              refine CondK.ff ?_
              try simp 
              apply he4
              try simp 
              repeat (refine PreK.intro (by first | omega | (intros; first | omega | (refine ⟨by omega, ?_⟩; simp_all; done) | (simp_all; done) | (simp_all; omega))) fun _ => ?_; (try simp ))
              exact hq2 1 _ (by omega) (by omega) (by simp [namR, rowR, range_succ', hma, leEls_refl])
          · simp at h6
        · obtain ⟨hl1, hl2⟩ := hwl 1 (by omega)
          have hm0 := mixR_zero (renF to) (el t 1)
          simp [namR, rowR, range_succ']
          try simp 
          repeat (refine PreK.intro (by first | omega | (intros; first | omega | (refine ⟨by omega, ?_⟩; simp_all; done) | (simp_all; done) | (simp_all; omega))) fun _ => ?_; (try simp ))
          refine CondK.intro (fun h6 => ?_) (fun h6 => ?_)
          · try simp 
            repeat (refine PreK.intro (by first | omega | (intros; first | omega | (refine ⟨by omega, ?_⟩; simp_all; done) | (simp_all; done) | (simp_all; omega))) fun _ => ?_; (try simp ))
            refine LoopK.by (ι := Nat) (fun i => ⟨[(9, iv i), (8, iv 1), (7, .sl 1003 6 0 5), (0, tabV t), (1, ints to)], (1003, some ⟨1, namR t 5, 6, true⟩) :: rowQ t to 5 1 i⟩) (fun i => (el t 1).length - i) (fun i => i ≤ (el t 1).length) 0 (Nat.zero_le _) (by simp [namR, rowQ, range_succ', hm0, leEls_refl]) ?_
            intro i Q4 hi hq4 he4 hr4
            have hml := mixR_len (renF to) (el t 1) i
            simp [namR, rowQ, range_succ']
            by_cases h7 : i < (el t 1).length
            · have h7' : (i : Int) < (el t 1).length := by omega
              obtain ⟨x, hx, hxl⟩ := hval 1 i (by omega) h7
              have hme := mixR_el (renF to) h7
              rw [hx] at hme
              have h7m : i < (mixR (renF to) (el t 1) i).length := by omega
              have hms : (List.map iv (mixR (renF to) (el t 1) i)).set i (AV.raw (.int .i64 (el to x))) = List.map iv (mixR (renF to) (el t 1) (i + 1)) := by
                rw [← mixR_set (renF to) h7, List.map_set, hx]; rfl
              have hjt : 1 < t.length := by omega
              try simp [h7, h7', h7m, hml, hme, hx, hxl, hms, hjt]
              repeat (refine PreK.intro (by first | omega | (intros; first | omega | (refine ⟨by omega, ?_⟩; simp_all; done) | (simp_all; done) | (simp_all; omega))) fun _ => ?_; (try simp [h7, h7', h7m, hml, hme, hx, hxl, hms, hjt]))
              refine CondK.tt ?_
              try simp 
              try simp [h7, h7', h7m, hml, hme, hx, hxl, hms, hjt]
              repeat (refine PreK.intro (by first | omega | (intros; first | omega | (refine ⟨by omega, ?_⟩; simp_all; done) | (simp_all; done) | (simp_all; omega))) fun _ => ?_; (try simp [h7, h7', h7m, hml, hme, hx, hxl, hms, hjt]))
              exact hq4 (i + 1) _ (by omega) (by omega) (by simp [namR, rowQ, range_succ', leEls_refl])
            · have h7' : ¬ (i : Int) < (el t 1).length := by omega
              have hie : i = (el t 1).length := by omega
              subst hie
              have hma := mixR_all (renF to) (el t 1)
              try simp 
              repeat (refine PreK.intro (by first | omega | (intros; first | omega | (refine ⟨by omega, ?_⟩; simp_all; done) | (simp_all; done) | (simp_all; omega))) fun _ => ?_; (try simp ))
              refine CondK.ff ?_
              try simp 
              apply he4
              try simp 
              repeat (refine PreK.intro (by first | omega | (intros; first | omega | (refine ⟨by omega, ?_⟩; simp_all; done) | (simp_all; done) | (simp_all; omega))) fun _ => ?_; (try simp ))
              exact hq2 2 _ (by omega) (by omega) (by simp [namR, rowR, range_succ', hma, leEls_refl])
          · simp at h6
        · obtain ⟨hl1, hl2⟩ := hwl 2 (by omega)
          have hm0 := mixR_zero (renF to) (el t 2)
          simp [namR, rowR, range_succ']
          try simp 
          repeat (refine PreK.intro (by first | omega | (intros; first | omega | (refine ⟨by omega, ?_⟩; simp_all; done) | (simp_all; done) | (simp_all; omega))) fun _ => ?_; (try simp ))
          refine CondK.intro (fun h6 => ?_) (fun h6 => ?_)
          · try simp 
            repeat (refine PreK.intro (by first | omega | (intros; first | omega | (refine ⟨by omega, ?_⟩; simp_all; done) | (simp_all; done) | (simp_all; omega))) fun _ => ?_; (try simp ))
            refine LoopK.by (ι := Nat) (fun i => ⟨[(9, iv i), (8, iv 2), (7, .sl 1003 6 0 5), (0, tabV t), (1, ints to)], (1003, some ⟨1, namR t 5, 6, true⟩) :: rowQ t to 5 2 i⟩) (fun i => (el t 2).length - i) (fun i => i ≤ (el t 2).length) 0 (Nat.zero_le _) (by simp [namR, rowQ, range_succ', hm0, leEls_refl]) ?_
            intro i Q4 hi hq4 he4 hr4
            have hml := mixR_len (renF to) (el t 2) i
            simp [namR, rowQ, range_succ']
            by_cases h7 : i < (el t 2).length
            · have h7' : (i : Int) < (el t 2).length := by omega
              obtain ⟨x, hx, hxl⟩ := hval 2 i (by omega) h7
              have hme := mixR_el (renF to) h7
              rw [hx] at hme
              have h7m : i < (mixR (renF to) (el t 2) i).length := by omega
              have hms : (List.map iv (mixR (renF to) (el t 2) i)).set i (AV.raw (.int .i64 (el to x))) = List.map iv (mixR (renF to) (el t 2) (i + 1)) := by
                rw [← mixR_set (renF to) h7, List.map_set, hx]; rfl
              have hjt : 2 < t.length := by omega
              try simp [h7, h7', h7m, hml, hme, hx, hxl, hms, hjt]
              repeat (refine PreK.intro (by first | omega | (intros; first | omega | (refine ⟨by omega, ?_⟩; simp_all; done) | (simp_all; done) | (simp_all; omega))) fun _ => ?_; (try simp [h7, h7', h7m, hml, hme, hx, hxl, hms, hjt]))
              refine CondK.tt ?_
              try simp 
              try simp [h7, h7', h7m, hml, hme, hx, hxl, hms, hjt]
              repeat (refine PreK.intro (by first | omega | (intros; first | omega | (refine ⟨by omega, ?_⟩; simp_all; done) | (simp_all; done) | (simp_all; omega))) fun _ => ?_; (try simp [h7, h7', h7m, hml, hme, hx, hxl, hms, hjt]))
              exact hq4 (i + 1) _ (by omega) (by omega) (by simp [namR, rowQ, range_succ', leEls_refl])
            · have h7' : ¬ (i : Int) < (el t 2).length := by omega
              have hie : i = (el t 2).length := by omega
              subst hie
              have hma := mixR_all (renF to) (el t 2)
              try simp 
              repeat (refine PreK.intro (by first | omega | (intros; first | omega | (refine ⟨by omega, ?_⟩; simp_all; done) | (simp_all; done) | (simp_all; omega))) fun _ => ?_; (try simp ))
              refine CondK.ff ?_
              try simp 
              apply he4
              try simp 
              repeat (refine PreK.intro (by first | omega | (intros; first | omega | (refine ⟨by omega, ?_⟩; simp_all; done) | (simp_all; done) | (simp_all; omega))) fun _ => ?_; (try simp ))
              exact hq2 3 _ (by omega) (by omega) (by simp [namR, rowR, range_succ', hma, leEls_refl])
          · simp at h6
        · obtain ⟨hl1, hl2⟩ := hwl 3 (by omega)
          have hm0 := mixR_zero (renF to) (el t 3)
          simp [namR, rowR, range_succ']
          try simp 
          repeat (refine PreK.intro (by first | omega | (intros; first | omega | (refine ⟨by omega, ?_⟩; simp_all; done) | (simp_all; done) | (simp_all; omega))) fun _ => ?_; (try simp ))
          refine CondK.intro (fun h6 => ?_) (fun h6 => ?_)
          · try simp 
            repeat (refine PreK.intro (by first | omega | (intros; first | omega | (refine ⟨by omega, ?_⟩; simp_all; done) | (simp_all; done) | (simp_all; omega))) fun _ => ?_; (try simp ))
            refine LoopK.by (ι := Nat) (fun i => ⟨[(9, iv i), (8, iv 3), (7, .sl 1003 6 0 5), (0, tabV t), (1, ints to)], (1003, some ⟨1, namR t 5, 6, true⟩) :: rowQ t to 5 3 i⟩) (fun i => (el t 3).length - i) (fun i => i ≤ (el t 3).length) 0 (Nat.zero_le _) (by simp [namR, rowQ, range_succ', hm0, leEls_refl]) ?_
            intro i Q4 hi hq4 he4 hr4
            have hml := mixR_len (renF to) (el t 3) i
            simp [namR, rowQ, range_succ']
            by_cases h7 : i < (el t 3).length
            · have h7' : (i : Int) < (el t 3).length := by omega
              obtain ⟨x, hx, hxl⟩ := hval 3 i (by omega) h7
              have hme := mixR_el (renF to) h7
              rw [hx] at hme
              have h7m : i < (mixR (renF to) (el t 3) i).length := by omega
              have hms : (List.map iv (mixR (renF to) (el t 3) i)).set i (AV.raw (.int .i64 (el to x))) = List.map iv (mixR (renF to) (el t 3) (i + 1)) := by
                rw [← mixR_set (renF to) h7, List.map_set, hx]; rfl
              have hjt : 3 < t.length := by omega
              try simp [h7, h7', h7m, hml, hme, hx, hxl, hms, hjt]
              repeat (refine PreK.intro (by first | omega | (intros; first | omega | (refine ⟨by omega, ?_⟩; simp_all; done) | (simp_all; done) | (simp_all; omega))) fun _ => ?_; (try simp [h7, h7', h7m, hml, hme, hx, hxl, hms, hjt]))
              refine CondK.tt ?_
              try simp 
              try simp [h7, h7', h7m, hml, hme, hx, hxl, hms, hjt]
              repeat (refine PreK.intro (by first | omega | (intros; first | omega | (refine ⟨by omega, ?_⟩; simp_all; done) | (simp_all; done) | (simp_all; omega))) fun _ => ?_; (try simp [h7, h7', h7m, hml, hme, hx, hxl, hms, hjt]))
              exact hq4 (i + 1) _ (by omega) (by omega) (by simp [namR, rowQ, range_succ', leEls_refl])
            · have h7' : ¬ (i : Int) < (el t 3).length := by omega
              have hie : i = (el t 3).length := by omega
              subst hie
              have hma := mixR_all (renF to) (el t 3)
              try simp 
              repeat (refine PreK.intro (by first | omega | (intros; first | omega | (refine ⟨by omega, ?_⟩; simp_all; done) | (simp_all; done) | (simp_all; omega))) fun _ => ?_; (try simp ))
              refine CondK.ff ?_
              try simp 
              apply he4
              try simp 
              repeat (refine PreK.intro (by first | omega | (intros; first | omega | (refine ⟨by omega, ?_⟩; simp_all; done) | (simp_all; done) | (simp_all; omega))) fun _ => ?_; (try simp ))
              exact hq2 4 _ (by omega) (by omega) (by simp [namR, rowR, range_succ', hma, leEls_refl])
          · simp at h6
        · obtain ⟨hl1, hl2⟩ := hwl 4 (by omega)
          have hm0 := mixR_zero (renF to) (el t 4)
          simp [namR, rowR, range_succ']
          try simp 
          repeat (refine PreK.intro (by first | omega | (intros; first | omega | (refine ⟨by omega, ?_⟩; simp_all; done) | (simp_all; done) | (simp_all; omega))) fun _ => ?_; (try simp ))
          refine CondK.intro (fun h6 => ?_) (fun h6 => ?_)
          · try simp 
            repeat (refine PreK.intro (by first | omega | (intros; first | omega | (refine ⟨by omega, ?_⟩; simp_all; done) | (simp_all; done) | (simp_all; omega))) fun _ => ?_; (try simp ))
            refine LoopK.by (ι := Nat) (fun i => ⟨[(9, iv i), (8, iv 4), (7, .sl 1003 6 0 5), (0, tabV t), (1, ints to)], (1003, some ⟨1, namR t 5, 6, true⟩) :: rowQ t to 5 4 i⟩) (fun i => (el t 4).length - i) (fun i => i ≤ (el t 4).length) 0 (Nat.zero_le _) (by simp [namR, rowQ, range_succ', hm0, leEls_refl]) ?_
            intro i Q4 hi hq4 he4 hr4
            have hml := mixR_len (renF to) (el t 4) i
            simp [namR, rowQ, range_succ']
            by_cases h7 : i < (el t 4).length
            · have h7' : (i : Int) < (el t 4).length := by omega
              obtain ⟨x, hx, hxl⟩ := hval 4 i (by omega) h7
              have hme := mixR_el (renF to) h7
              rw [hx] at hme
              have h7m : i < (mixR (renF to) (el t 4) i).length := by omega
              have hms : (List.map iv (mixR (renF to) (el t 4) i)).set i (AV.raw (.int .i64 (el to x))) = List.map iv (mixR (renF to) (el t 4) (i + 1)) := by
                rw [← mixR_set (renF to) h7, List.map_set, hx]; rfl
              have hjt : 4 < t.length := by omega
              try simp [h7, h7', h7m, hml, hme, hx, hxl, hms, hjt]
              repeat (refine PreK.intro (by first | omega | (intros; first | omega | (refine ⟨by omega, ?_⟩; simp_all; done) | (simp_all; done) | (simp_all; omega))) fun _ => ?_; (try simp [h7, h7', h7m, hml, hme, hx, hxl, hms, hjt]))
              refine CondK.tt ?_
              try simp 
              try simp [h7, h7', h7m, hml, hme, hx, hxl, hms, hjt]
              repeat (refine PreK.intro (by first | omega | (intros; first | omega | (refine ⟨by omega, ?_⟩; simp_all; done) | (simp_all; done) | (simp_all; omega))) fun _ => ?_; (try simp [h7, h7', h7m, hml, hme, hx, hxl, hms, hjt]))
              exact hq4 (i + 1) _ (by omega) (by omega) (by simp [namR, rowQ, range_succ', leEls_refl])
            · have h7' : ¬ (i : Int) < (el t 4).length := by omega
              have hie : i = (el t 4).length := by omega
              subst hie
              have hma := mixR_all (renF to) (el t 4)
              try simp 
              repeat (refine PreK.intro (by first | omega | (intros; first | omega | (refine ⟨by omega, ?_⟩; simp_all; done) | (simp_all; done) | (simp_all; omega))) fun _ => ?_; (try simp ))
              refine CondK.ff ?_
              try simp 
              apply he4
              try simp 
              repeat (refine PreK.intro (by first | omega | (intros; first | omega | (refine ⟨by omega, ?_⟩; simp_all; done) | (simp_all; done) | (simp_all; omega))) fun _ => ?_; (try simp ))
              exact hq2 5 _ (by omega) (by omega) (by simp [namR, rowR, range_succ', hma, leEls_refl])
          · simp at h6
        · simp [namR, rowR, range_succ']
          try simp 
          repeat (refine PreK.intro (by first | omega | (intros; first | omega | (refine ⟨by omega, ?_⟩; simp_all; done) | (simp_all; done) | (simp_all; omega))) fun _ => ?_; (try simp ))
          refine CondK.intro (fun h6 => ?_) (fun h6 => ?_)
          · simp at h6
          · apply he2
            try simp 
            repeat (refine PreK.intro (by first | omega | (intros; first | omega | (refine ⟨by omega, ?_⟩; simp_all; done) | (simp_all; done) | (simp_all; omega))) fun _ => ?_; (try simp ))
            refine ⟨[1100, 1101, 1102, 1103, 1104, 1003], ?_⟩
            have htk : ∀ (l : List Int) (f : Int → AV), List.take l.length (List.map f l) = List.map f l := fun l f => List.take_of_length_le (by simp)
            rw [hrr]
            simp [namR, rowR, range_succ', htk]
      · rw [hn] at hcm hwl hval hrr
        simp only [rowN, rowM] at hcm
        refine CallX.mem 1000 hcm (by simp) (by simp [range_succ']) (by simp [range_succ']) ?_
        simp [range_succ']
        try simp 
        repeat (refine PreK.intro (by first | omega | (intros; first | omega | (refine ⟨by omega, ?_⟩; simp_all; done) | (simp_all; done) | (simp_all; omega))) fun _ => ?_; (try simp ))
        refine LoopK.by (ι := Nat) (fun k => ⟨[(8, iv k), (7, .sl 1003 7 0 6), (0, tabV t), (1, ints to)], (1003, some ⟨1, namR t 6, 7, true⟩) :: rowR t to 6 k⟩) (fun k => 6 - k) (fun k => k ≤ 6) 0 (Nat.zero_le _) (by simp [namR, rowR, range_succ', leEls_refl]) ?_
        intro k Q2 hk hq2 he2 hr2
        have hk6 : k = 0 ∨ k = 1 ∨ k = 2 ∨ k = 3 ∨ k = 4 ∨ k = 5 ∨ k = 6 := by omega
        rcases hk6 with rfl | rfl | rfl | rfl | rfl | rfl | rfl
        · obtain ⟨hl1, hl2⟩ := hwl 0 (by omega)
          have hm0 := mixR_zero (renF to) (el t 0)
          simp [namR, rowR, range_succ']
          try simp 
          repeat (refine PreK.intro (by first | omega | (intros; first | omega | (refine ⟨by omega, ?_⟩; simp_all; done) | (simp_all; done) | (simp_all; omega))) fun _ => ?_; (try simp ))
          refine CondK.intro (fun h6 => ?_) (fun h6 => ?_)
          · try simp 
            repeat (refine PreK.intro (by first | omega | (intros; first | omega | (refine ⟨by omega, ?_⟩; simp_all; done) | (simp_all; done) | (simp_all; omega))) fun _ => ?_; (try simp ))
            refine LoopK.by (ι := Nat) (fun i => ⟨[(9, iv i), (8, iv 0), (7, .sl 1003 7 0 6), (0, tabV t), (1, ints to)], (1003, some ⟨1, namR t 6, 7, true⟩) :: rowQ t to 6 0 i⟩) (fun i => (el t 0).length - i) (fun i => i ≤ (el t 0).length) 0 (Nat.zero_le _) (by simp [namR, rowQ, range_succ', hm0, leEls_refl]) ?_
            intro i Q4 hi hq4 he4 hr4
            have hml := mixR_len (renF to) (el t 0) i
            simp [namR, rowQ, range_succ']
            by_cases h7 : i < (el t 0).length
            · have h7' : (i : Int) < (el t 0).length := by omega
              obtain ⟨x, hx, hxl⟩ := hval 0 i (by omega) h7
              have hme := mixR_el (renF to) h7
              rw [hx] at hme
              have h7m : i < (mixR (renF to) (el t 0) i).length := by omega
              have hms : (List.map iv (mixR (renF to) (el t 0) i)).set i (AV.raw (.int .i64 (el to x))) = List.map iv (mixR (renF to) (el t 0) (i + 1)) := by
                rw [← mixR_set (renF to) h7, List.map_set, hx]; rfl
              have hjt : 0 < t.length := by omega
              try simp [h7, h7', h7m, hml, hme, hx, hxl, hms, hjt]
              repeat (refine PreK.intro (by first | omega | (intros; first | omega | (refine ⟨by omega, ?_⟩; simp_all; done) | (simp_all; done) | (simp_all; omega))) fun _ => ?_; (try simp [h7, h7', h7m, hml, hme, hx, hxl, hms, hjt]))
              refine CondK.tt ?_
              try simp 
              try simp [h7, h7', h7m, hml, hme, hx, hxl, hms, hjt]
              repeat (refine PreK.intro (by first | omega | (intros; first | omega | (refine ⟨by omega, ?_⟩; simp_all; done) | (simp_all; done) | (simp_all; omega))) fun _ => ?_; (try simp [h7, h7', h7m, hml, hme, hx, hxl, hms, hjt]))
              exact hq4 (i + 1) _ (by omega) (by omega) (by simp [namR, rowQ, range_succ', leEls_refl])
            · have h7' : ¬ (i : Int) < (el t 0).length := by omega
              have hie : i = (el t 0).length := by omega
              subst hie
              have hma := mixR_all (renF to) (el t 0)
              try simp 
              repeat (refine PreK.intro (by first | omega | (intros; first | omega | (refine ⟨by omega, ?_⟩; simp_all; done) | (simp_all; done) | (simp_all; omega))) fun _ => ?_; (try simp ))
              refine CondK.ff ?_
              try simp 
              apply he4
              try simp 
              repeat (refine PreK.intro (by first | omega | (intros; first | omega | (refine ⟨by omega, ?_⟩; simp_all; done) | (simp_all; done) | (simp_all; omega))) fun _ => ?_; (try simp ))
              exact hq2 1 _ (by omega) (by omega) (by simp [namR, rowR, range_succ', hma, leEls_refl])
          · simp at h6
        · obtain ⟨hl1, hl2⟩ := hwl 1 (by omega)
          have hm0 := mixR_zero (renF to) (el t 1)
          simp [namR, rowR, range_succ']
          try simp 
          repeat (refine PreK.intro (by first | omega | (intros; first | omega | (refine ⟨by omega, ?_⟩; simp_all; done) | (simp_all; done) | (simp_all; omega))) fun _ => ?_; (try simp ))
          refine CondK.intro (fun h6 => ?_) (fun h6 => ?_)
          · try simp 
            repeat (refine PreK.intro (by first | omega | (intros; first | omega | (refine ⟨by omega, ?_⟩; simp_all; done) | (simp_all; done) | (simp_all; omega))) fun _ => ?_; (try simp ))
            refine LoopK.by (ι := Nat) (fun i => ⟨[(9, iv i), (8, iv 1), (7, .sl 1003 7 0 6), (0, tabV t), (1, ints to)], (1003, some ⟨1, namR t 6, 7, true⟩) :: rowQ t to 6 1 i⟩) (fun i => (el t 1).length - i) (fun i => i ≤ (el t 1).length) 0 (Nat.zero_le _) (by simp [namR, rowQ, range_succ', hm0, leEls_refl]) ?_
            intro i Q4 hi hq4 he4 hr4
            have hml := mixR_len (renF to) (el t 1) i
            simp [namR, rowQ, range_succ']
            by_cases h7 : i < (el t 1).length
            · have h7' : (i : Int) < (el t 1).length := by omega
              obtain ⟨x, hx, hxl⟩ := hval 1 i (by omega) h7
              have hme := mixR_el (renF to) h7
              rw [hx] at hme
              have h7m : i < (mixR (renF to) (el t 1) i).length := by omega
              have hms : (List.map iv (mixR (renF to) (el t 1) i)).set i (AV.raw (.int .i64 (el to x))) = List.map iv (mixR (renF to) (el t 1) (i + 1)) := by
                rw [← mixR_set (renF to) h7, List.map_set, hx]; rfl
              have hjt : 1 < t.length := by omega
              try simp [h7, h7', h7m, hml, hme, hx, hxl, hms, hjt]
              repeat (refine PreK.intro (by first | omega | (intros; first | omega | (refine ⟨by omega, ?_⟩; simp_all; done) | (simp_all; done) | (simp_all; omega))) fun _ => ?_; (try simp [h7, h7', h7m, hml, hme, hx, hxl, hms, hjt]))
              refine CondK.tt ?_
              try simp 
              try simp [h7, h7', h7m, hml, hme, hx, hxl, hms, hjt]
              repeat (refine PreK.intro (by first | omega | (intros; first | omega | (refine ⟨by omega, ?_⟩; simp_all; done) | (simp_all; done) | (simp_all; omega))) fun _ => ?_; (try simp [h7, h7', h7m, hml, hme, hx, hxl, hms, hjt]))
              exact hq4 (i + 1) _ (by omega) (by omega) (by simp [namR, rowQ, range_succ', leEls_refl])
            · have h7' : ¬ (i : Int) < (el t 1).length := by omega
              have hie : i = (el t 1).length := by omega
              subst hie
              have hma := mixR_all (renF to) (el t 1)
              try simp 
              repeat (refine PreK.intro (by first | omega | (intros; first | omega | (refine ⟨by omega, ?_⟩; simp_all; done) | (simp_all; done) | (simp_all; omega))) fun _ => ?_; (try simp ))
              refine CondK.ff ?_
              try simp 
              apply he4
              try simp 
              repeat (refine PreK.intro (by first | omega | (intros; first | omega | (refine ⟨by omega, ?_⟩; simp_all; done) | (simp_all; done) | (simp_all; omega))) fun _ => ?_; (try simp ))
              exact hq2 2 _ (by omega) (by omega) (by simp [namR, rowR, range_succ', hma, leEls_refl])
          · simp at h6
        · obtain ⟨hl1, hl2⟩ := hwl 2 (by omega)
          have hm0 := mixR_zero (renF to) (el t 2)
          simp [namR, rowR, range_succ']
          try simp 
          repeat (refine PreK.intro (by first | omega | (intros; first | omega | (refine ⟨by omega, ?_⟩; simp_all; done) | (simp_all; done) | (simp_all; omega))) fun _ => ?_; (try simp ))
          refine CondK.intro (fun h6 => ?_) (fun h6 => ?_)
          · try simp 
            repeat (refine PreK.intro (by first | omega | (intros; first | omega | (refine ⟨by omega, ?_⟩; simp_all; done) | (simp_all; done) | (simp_all; omega))) fun _ => ?_; (try simp ))
            refine LoopK.by (ι := Nat) (fun i => ⟨[(9, iv i), (8, iv 2), (7, .sl 1003 7 0 6), (0, tabV t), (1, ints to)], (1003, some ⟨1, namR t 6, 7, true⟩) :: rowQ t to 6 2 i⟩) (fun i => (el t 2).length - i) (fun i => i ≤ (el t 2).length) 0 (Nat.zero_le _) (by simp [namR, rowQ, range_succ', hm0, leEls_refl]) ?_
            intro i Q4 hi hq4 he4 hr4
            have hml := mixR_len (renF to) (el t 2) i
            simp [namR, rowQ, range_succ']
            by_cases h7 : i < (el t 2).length
            · have h7' : (i : Int) < (el t 2).length := by omega
              obtain ⟨x, hx, hxl⟩ := hval 2 i (by omega) h7
              have hme := mixR_el (renF to) h7
              rw [hx] at hme
              have h7m : i < (mixR (renF to) (el t 2) i).length := by omega
              have hms : (List.map iv (mixR (renF to) (el t 2) i)).set i (AV.raw (.int .i64 (el to x))) = List.map iv (mixR (renF to) (el t 2) (i + 1)) := by
                rw [← mixR_set (renF to) h7, List.map_set, hx]; rfl
              have hjt : 2 < t.length := by omega
              try simp [h7, h7', h7m, hml, hme, hx, hxl, hms, hjt]
              repeat (refine PreK.intro (by first | omega | (intros; first | omega | (refine ⟨by omega, ?_⟩; simp_all; done) | (simp_all; done) | (simp_all; omega))) fun _ => ?_; (try simp [h7, h7', h7m, hml, hme, hx, hxl, hms, hjt]))
              refine CondK.tt ?_
              try simp 
              try simp [h7, h7', h7m, hml, hme, hx, hxl, hms, hjt]
              repeat (refine PreK.intro (by first | omega | (intros; first | omega | (refine ⟨by omega, ?_⟩; simp_all; done) | (simp_all; done) | (simp_all; omega))) fun _ => ?_; (try simp [h7, h7', h7m, hml, hme, hx, hxl, hms, hjt]))
              exact hq4 (i + 1) _ (by omega) (by omega) (by simp [namR, rowQ, range_succ', leEls_refl])
            · have h7' : ¬ (i : Int) < (el t 2).length := by omega
              have hie : i = (el t 2).length := by omega
              subst hie
              have hma := mixR_all (renF to) (el t 2)
              try simp 
              repeat (refine PreK.intro (by first | omega | (intros; first | omega | (refine ⟨by omega, ?_⟩; simp_all; done) | (simp_all; done) | (simp_all; omega))) fun _ => ?_; (try simp ))
              refine CondK.ff ?_
              try simp 
              apply he4
              try simp 
              repeat (refine PreK.intro (by first | omega | (intros; first | omega | (refine ⟨by omega, ?_⟩; simp_all; done) | (simp_all; done) | (simp_all; omega))) fun _ => ?_; (try simp ))
              exact hq2 3 _ (by omega) (by omega) (by simp [namR, rowR, range_succ', hma, leEls_refl])
          · simp at h6
        · obtain ⟨hl1, hl2⟩ := hwl 3 (by omega)
          have hm0 := mixR_zero (renF to) (el t 3)
          simp [namR, rowR, range_succ']
          try simp 
          repeat (refine PreK.intro (by first | omega | (intros; first | omega | (refine ⟨by omega, ?_⟩; simp_all; done) | (simp_all; done) | (simp_all; omega))) fun _ => ?_; (try simp ))
          refine CondK.intro (fun h6 => ?_) (fun h6 => ?_)
          · try simp 
            repeat (refine PreK.intro (by first | omega | (intros; first | omega | (refine ⟨by omega, ?_⟩; simp_all; done) | (simp_all; done) | (simp_all; omega))) fun _ => ?_; (try simp ))
            refine LoopK.by (ι := Nat) (fun i => ⟨[(9, iv i), (8, iv 3), (7, .sl 1003 7 0 6), (0, tabV t), (1, ints to)], (1003, some ⟨1, namR t 6, 7, true⟩) :: rowQ t to 6 3 i⟩) (fun i => (el t 3).length - i) (fun i => i ≤ (el t 3).length) 0 (Nat.zero_le _) (by simp [namR, rowQ, range_succ', hm0, leEls_refl]) ?_
            intro i Q4 hi hq4 he4 hr4
            have hml := mixR_len (renF to) (el t 3) i
            simp [namR, rowQ, range_succ']
            by_cases h7 : i < (el t 3).length
            · have h7' : (i : Int) < (el t 3).length := by omega
              obtain ⟨x, hx, hxl⟩ := hval 3 i (by omega) h7
              have hme := mixR_el (renF to) h7
              rw [hx] at hme
              have h7m : i < (mixR (renF to) (el t 3) i).length := by omega
              have hms : (List.map iv (mixR (renF to) (el t 3) i)).set i (AV.raw (.int .i64 (el to x))) = List.map iv (mixR (renF to) (el t 3) (i + 1)) := by
                rw [← mixR_set (renF to) h7, List.map_set, hx]; rfl
              have hjt : 3 < t.length := by omega
              try simp [h7, h7', h7m, hml, hme, hx, hxl, hms, hjt]
              repeat (refine PreK.intro (by first | omega | (intros; first | omega | (refine ⟨by omega, ?_⟩; simp_all; done) | (simp_all; done) | (simp_all; omega))) fun _ => ?_; (try simp [h7, h7', h7m, hml, hme, hx, hxl, hms, hjt]))
              refine CondK.tt ?_
              try simp 
              try simp [h7, h7', h7m, hml, hme, hx, hxl, hms, hjt]
              repeat (refine PreK.intro (by first | omega | (intros; first | omega | (refine ⟨by omega, ?_⟩; simp_all; done) | (simp_all; done) | (simp_all; omega))) fun _ => ?_; (try simp [h7, h7', h7m, hml, hme, hx, hxl, hms, hjt]))
              exact hq4 (i + 1) _ (by omega) (by omega) (by simp [namR, rowQ, range_succ', leEls_refl])
            · have h7' : ¬ (i : Int) < (el t 3).length := by omega
              have hie : i = (el t 3).length := by omega
              subst hie
              have hma := mixR_all (renF to) (el t 3)
              try simp 
              repeat (refine PreK.intro (by first | omega | (intros; first | omega | (refine ⟨by omega, ?_⟩; simp_all; done) | (simp_all; done) | (simp_all; omega))) fun _ => ?_; (try simp ))
              refine CondK.ff ?_
              try simp 
              apply he4
              try simp 
              repeat (refine PreK.intro (by first | omega | (intros; first | omega | (refine ⟨by omega, ?_⟩; simp_all; done) | (simp_all; done) | (simp_all; omega))) fun _ => ?_; (try simp ))
              exact hq2 4 _ (by omega) (by omega) (by simp [namR, rowR, range_succ', hma, leEls_refl])
          · simp at h6
        · obtain ⟨hl1, hl2⟩ := hwl 4 (by omega)
          have hm0 := mixR_zero (renF to) (el t 4)
          simp [namR, rowR, range_succ']
          try simp 
          repeat (refine PreK.intro (by first | omega | (intros; first | omega | (refine ⟨by omega, ?_⟩; simp_all; done) | (simp_all; done) | (simp_all; omega))) fun _ => ?_; (try simp ))
          refine CondK.intro (fun h6 => ?_) (fun h6 => ?_)
          · try simp 
            repeat (refine PreK.intro (by first | omega | (intros; first | omega | (refine ⟨by omega, ?_⟩; simp_all; done) | (simp_all; done) | (simp_all; omega))) fun _ => ?_; (try simp ))
            refine LoopK.by (ι := Nat) (fun i => ⟨[(9, iv i), (8, iv 4), (7, .sl 1003 7 0 6), (0, tabV t), (1, ints to)], (1003, some ⟨1, namR t 6, 7, true⟩) :: rowQ t to 6 4 i⟩) (fun i => (el t 4).length - i) (fun i => i ≤ (el t 4).length) 0 (Nat.zero_le _) (by simp [namR, rowQ, range_succ', hm0, leEls_refl]) ?_
            intro i Q4 hi hq4 he4 hr4
            have hml := mixR_len (renF to) (el t 4) i
            simp [namR, rowQ, range_succ']
            by_cases h7 : i < (el t 4).length
            · have h7' : (i : Int) < (el t 4).length := by omega
              obtain ⟨x, hx, hxl⟩ := hval 4 i (by omega) h7
              have hme := mixR_el (renF to) h7
              rw [hx] at hme
              have h7m : i < (mixR (renF to) (el t 4) i).length := by omega
              have hms : (List.map iv (mixR (renF to) (el t 4) i)).set i (AV.raw (.int .i64 (el to x))) = List.map iv (mixR (renF to) (el t 4) (i + 1)) := by
                rw [← mixR_set (renF to) h7, List.map_set, hx]; rfl
              have hjt : 4 < t.length := by omega
              try simp [h7, h7', h7m, hml, hme, hx, hxl, hms, hjt]
              repeat (refine PreK.intro (by first | omega | (intros; first | omega | (refine ⟨by omega, ?_⟩; simp_all; done) | (simp_all; done) | (simp_all; omega))) fun _ => ?_; (try simp [h7, h7', h7m, hml, hme, hx, hxl, hms, hjt]))
              refine CondK.tt ?_
              try simp 
              try simp [h7, h7', h7m, hml, hme, hx, hxl, hms, hjt]
              repeat (refine PreK.intro (by first | omega | (intros; first | omega | (refine ⟨by omega, ?_⟩; simp_all; done) | (simp_all; done) | (simp_all; omega))) fun _ => ?_; (try simp [h7, h7', h7m, hml, hme, hx, hxl, hms, hjt]))
              exact hq4 (i + 1) _ (by omega) (by omega) (by simp [namR, rowQ, range_succ', leEls_refl])
            · have h7' : ¬ (i : Int) < (el t 4).length := by omega
              have hie : i = (el t 4).length := by omega
              subst hie
              have hma := mixR_all (renF to) (el t 4)
              try simp 
              repeat (refine PreK.intro (by first | omega | (intros; first | omega | (refine ⟨by omega, ?_⟩; simp_all; done) | (simp_all; done) | (simp_all; omega))) fun _ => ?_; (try simp ))
              refine CondK.ff ?_
              try simp 
              apply he4
              try simp 
              repeat (refine PreK.intro (by first | omega | (intros; first | omega | (refine ⟨by omega, ?_⟩; simp_all; done) | (simp_all; done) | (simp_all; omega))) fun _ => ?_; (try simp ))
              exact hq2 5 _ (by omega) (by omega) (by simp [namR, rowR, range_succ', hma, leEls_refl])
          · simp at h6
        · obtain ⟨hl1, hl2⟩ := hwl 5 (by omega)
          have hm0 := mixR_zero (renF to) (el t 5)
          simp [namR, rowR, range_succ']
          try simp 
          repeat (refine PreK.intro (by first | omega | (intros; first | omega | (refine ⟨by omega, ?_⟩; simp_all; done) | (simp_all; done) | (simp_all; omega))) fun _ => ?_; (try simp ))
          refine CondK.intro (fun h6 => ?_) (fun h6 => ?_)
          · try simp 
            repeat (refine PreK.intro (by first | omega | (intros; first | omega | (refine ⟨by omega, ?_⟩; simp_all; done) | (simp_all; done) | (simp_all; omega))) fun _ => ?_; (try simp ))
            refine LoopK.by (ι := Nat) (fun i => ⟨[(9, iv i), (8, iv 5), (7, .sl 1003 7 0 6), (0, tabV t), (1, ints to)], (1003, some ⟨1, namR t 6, 7, true⟩) :: rowQ t to 6 5 i⟩) (fun i => (el t 5).length - i) (fun i => i ≤ (el t 5).length) 0 (Nat.zero_le _) (by simp [namR, rowQ, range_succ', hm0, leEls_refl]) ?_
            intro i Q4 hi hq4 he4 hr4
            have hml := mixR_len (renF to) (el t 5) i
            simp [namR, rowQ, range_succ']
            by_cases h7 : i < (el t 5).length
            · have h7' : (i : Int) < (el t 5).length := by omega
              obtain ⟨x, hx, hxl⟩ := hval 5 i (by omega) h7
              have hme := mixR_el (renF to) h7
              rw [hx] at hme
              have h7m : i < (mixR (renF to) (el t 5) i).length := by omega
              have hms : (List.map iv (mixR (renF to) (el t 5) i)).set i (AV.raw (.int .i64 (el to x))) = List.map iv (mixR (renF to) (el t 5) (i + 1)) := by
                rw [← mixR_set (renF to) h7, List.map_set, hx]; rfl
              have hjt : 5 < t.length := by omega
              try simp [h7, h7', h7m, hml, hme, hx, hxl, hms, hjt]
              repeat (refine PreK.intro (by first | omega | (intros; first | omega | (refine ⟨by omega, ?_⟩; simp_all; done) | (simp_all; done) | (simp_all; omega))) fun _ => ?_; (try simp [h7, h7', h7m, hml, hme, hx, hxl, hms, hjt]))
              refine CondK.tt ?_
              try simp 
              try simp [h7, h7', h7m, hml, hme, hx, hxl, hms, hjt]
              repeat (refine PreK.intro (by first | omega | (intros; first | omega | (refine ⟨by omega, ?_⟩; simp_all; done) | (simp_all; done) | (simp_all; omega))) fun _ => ?_; (try simp [h7, h7', h7m, hml, hme, hx, hxl, hms, hjt]))
              exact hq4 (i + 1) _ (by omega) (by omega) (by simp [namR, rowQ, range_succ', leEls_refl])
            · have h7' : ¬ (i : Int) < (el t 5).length := by omega
              have hie : i = (el t 5).length := by omega
              subst hie
              have hma := mixR_all (renF to) (el t 5)
              try simp 
              repeat (refine PreK.intro (by first | omega | (intros; first | omega | (refine ⟨by omega, ?_⟩; simp_all; done) | (simp_all; done) | (simp_all; omega))) fun _ => ?_; (try simp ))
              refine CondK.ff ?_
              try simp 
              apply he4
              try simp 
              repeat (refine PreK.intro (by first | omega | (intros; first | omega | (refine ⟨by omega, ?_⟩; simp_all; done) | (simp_all; done) | (simp_all; omega))) fun _ => ?_; (try simp ))
              exact hq2 6 _ (by omega) (by omega) (by simp [namR, rowR, range_succ', hma, leEls_refl])
          · simp at h6
        · simp [namR, rowR, range_succ']
          try simp 
          repeat (refine PreK.intro (by first | omega | (intros; first | omega | (refine ⟨by omega, ?_⟩; simp_all; done) | (simp_all; done) | (simp_all; omega))) fun _ => ?_; (try simp ))
          refine CondK.intro (fun h6 => ?_) (fun h6 => ?_)
          · simp at h6
          · apply he2
            try simp 
            repeat (refine PreK.intro (by first | omega | (intros; first | omega | (refine ⟨by omega, ?_⟩; simp_all; done) | (simp_all; done) | (simp_all; omega))) fun _ => ?_; (try simp ))
            refine ⟨[1100, 1101, 1102, 1103, 1104, 1105, 1003], ?_⟩
            have htk : ∀ (l : List Int) (f : Int → AV), List.take l.length (List.map f l) = List.map f l := fun l f => List.take_of_length_le (by simp)
            rw [hrr]
            simp [namR, rowR, range_succ', htk]
  · rw [if_pos h1] at hR
    subst hR
    try simp [h1]
    repeat (refine PreK.intro (by first | omega | (intros; first | omega | (refine ⟨by omega, ?_⟩; simp_all; done) | (simp_all; done) | (simp_all; omega))) fun _ => ?_; (try simp [h1]))
    refine CondK.tt ?_
    try simp 
    try simp 
    repeat (refine PreK.intro (by first | omega | (intros; first | omega | (refine ⟨by omega, ?_⟩; simp_all; done) | (simp_all; done) | (simp_all; omega))) fun _ => ?_; (try simp ))
    exact ⟨[], by simp⟩
end Go.Proofs.YtgfgkfkplidncaaGreat
end
