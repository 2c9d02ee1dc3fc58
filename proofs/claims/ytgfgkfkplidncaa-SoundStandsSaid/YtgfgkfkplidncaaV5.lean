/- Part 5 of the proof: the value layer and the contracts of the functions that the statement reaches; proved without conditions beyond those each theorem states. -/
import Derived.Test.YtgfgkfkplidncaaV2
import Derived.Test.YtgfgkfkplidncaaV4
set_option linter.unusedSimpArgs false
set_option linter.unusedVariables false

section
/- Contracts: the document's families and orders; what is too long. -/
namespace Go.Proofs.Ytgfgkfkplidncaa
open Go.Abs Go
set_option maxRecDepth 20000
set_option maxHeartbeats 2000000
attribute [local irreducible] PreK CondK CallK CallG CallX LoopK
attribute [local simp] avsEq avEq akind teq vkind vEq

theorem rValidateFamily_c (n : Int) (f : List (List Int)) (h : Sm f) : CallP Try.prog 30 [iv n, tabV f] (iv (famErr n f)) := by
  refine C30 (by simp) ?_
  have hn := h.num
  generalize hR : famErr n f = R
  unfold famErr at hR
  simp [A30]
  have hw := within1_c n 1 6
  generalize hb : (decide (1 ≤ n) && decide (n ≤ 6)) = b at hR hw
  cases b with
  | false =>
    try simp 
    repeat' (first
      | (refine CallX.pure (hw) (by simp) (by simp) ?_; try simp )
      | (refine CallK.intro (hw) (by simp) (by simp) ?_; try simp )
      | (refine CallG.intro (fun _ => hw) (by simp) (by simp) ?_; try simp )
      | ((with_reducible refine PreK.intro ?_ ?_); (next => (first | omega | (intros; first | omega | (refine ⟨by omega, ?_⟩; repeat (first | assumption | constructor)) | assumption))); intro _; try simp )
      | fail)
    refine CondK.tt ?_
    try simp 
    simpa using hR
  | true =>
    simp only [Bool.and_eq_true, decide_eq_true_eq] at hb
    simp only [Bool.not_true, Bool.false_eq_true, if_false] at hR
    try simp 
    repeat' (first
      | (refine CallX.pure (hw) (by simp) (by simp) ?_; try simp )
      | (refine CallK.intro (hw) (by simp) (by simp) ?_; try simp )
      | (refine CallG.intro (fun _ => hw) (by simp) (by simp) ?_; try simp )
      | ((with_reducible refine PreK.intro ?_ ?_); (next => (first | omega | (intros; first | omega | (refine ⟨by omega, ?_⟩; repeat (first | assumption | constructor)) | assumption))); intro _; try simp )
      | fail)
    refine CondK.ff ?_
    try simp 
    try simp 
    refine CondK.intro (fun h1 => ?_) (fun h1 => ?_)
    · simp at h1
      rw [if_pos (by omega)] at hR
      try simp 
      exact hR
    · simp at h1
      rw [if_neg (by omega)] at hR
      try simp 
      refine LoopK.by (fun i : Nat => ⟨[(5, iv i), (1, tabV f), (0, iv n)], []⟩) (fun i => f.length - i) (fun i => i ≤ f.length ∧ (if (f.drop i).any (famBad n) = true then 1 else 0) = R) 0 (by simpa using hR) (by simp) ?_
      intro i Q' ⟨hi, hc⟩ hq he hr
      try simp 
      refine CondK.intro (fun h2 => ?_) (fun h2 => ?_)
      · simp at h2
        have hel := h.el i
        rw [drop_cons f i h2, List.any_cons] at hc
        have hs := rIsSet_c (el f i) (n - 1) (by omega) (by omega)
        unfold famBad at hc
        generalize setG (n - 1) none (el f i) = b at hs hc
        by_cases h3 : el f i = []
        · simp only [h3, decide_true, Bool.true_or, if_true] at hc
          try simp [h2, h3]
          repeat (refine PreK.intro (by first | omega | (intros; first | omega | (refine ⟨by omega, ?_⟩; simp_all; done) | (simp_all; done) | (simp_all; omega))) fun _ => ?_; (try simp [h2, h3]))
          refine CallG.intro (r := bv true) (fun hh => by cases hh) (by simp) (by simp) ?_
          try simp 
          repeat (refine PreK.intro (by first | omega | (intros; first | omega | (refine ⟨by omega, ?_⟩; simp_all; done) | (simp_all; done) | (simp_all; omega))) fun _ => ?_; (try simp ))
          refine CondK.tt ?_
          try simp 
          apply hr
          simp [hc]
        · have h3' : ¬ (el f i).length = 0 := fun e => h3 (List.eq_nil_of_length_eq_zero e)
          simp only [h3, decide_false, Bool.false_or] at hc
          try simp [h2, h3, h3']
          repeat' (first
            | (refine CallX.pure (hs) (by simp) (by simp) ?_; try simp [h2, h3, h3'])
            | (refine CallK.intro (hs) (by simp) (by simp) ?_; try simp [h2, h3, h3'])
            | (refine CallG.intro (fun _ => hs) (by simp) (by simp) ?_; try simp [h2, h3, h3'])
            | ((with_reducible refine PreK.intro ?_ ?_); (next => (first | omega | (intros; first | omega | (refine ⟨by omega, ?_⟩; repeat (first | assumption | constructor)) | assumption))); intro _; try simp [h2, h3, h3'])
            | fail)
          refine CondK.intro (fun h4 => ?_) (fun h4 => ?_)
          · rw [h4] at hc
            simp only [Bool.true_or, if_true] at hc
            try simp 
            apply hr
            simp [hc]
          · rw [h4] at hc
            simp only [Bool.false_or] at hc
            repeat (refine PreK.intro (by first | omega | (intros; first | omega | (refine ⟨by omega, ?_⟩; simp_all; done) | (simp_all; done) | (simp_all; omega))) fun _ => ?_; (try simp ))
            exact hq (i + 1) _ ⟨by omega, hc⟩ (by omega) (by simp)
      · simp at h2
        rw [List.drop_eq_nil_of_le (by omega)] at hc
        simp only [List.any_nil, Bool.false_eq_true, if_false] at hc
        try simp 
        apply he
        try simp 
        exact hc
def ordErr (n : Int) (f : List (List Int)) (o : List Int) : Int := if famErr n f ≠ 0 then famErr n f else if isOrdB o n then 0 else 1
theorem ordErr_zero {n : Int} {f : List (List Int)} {o : List Int} (h : ordErr n f o = 0) : ∃ k : Nat, n = k ∧ FamOK k f ∧ OrdOK k o := by
  unfold ordErr at h
  split at h
  · rename_i h1; exact absurd h h1
  · rename_i h1
    obtain ⟨k, rfl, hf⟩ := famErr_zero (by simpa using h1)
    split at h
    · rename_i h2; exact ⟨k, rfl, hf, isOrd_iff.1 h2⟩
    · cases h
theorem ordered_c (n : Int) (f : List (List Int)) (o : List Int) (h : Sm f) (ho : o.length ≤ 100) : CallP Try.prog 58 [iv n, tabV f, ints o] (iv (ordErr n f o)) := by
  refine C58 (by simp) ?_
  have hv := ValidateFamily_c n f h
  have hi := isOrder_c o n (by omega)
  unfold ordErr
  generalize famErr n f = e at *
  generalize isOrdB o n = b at *
  simp [A58]
  try simp 
  repeat' (first
    | (refine CallX.pure (hv) (by simp) (by simp) ?_; try simp )
    | (refine CallK.intro (hv) (by simp) (by simp) ?_; try simp )
    | (refine CallG.intro (fun _ => hv) (by simp) (by simp) ?_; try simp )
    | ((with_reducible refine PreK.intro ?_ ?_); (next => (first | omega | (intros; first | omega | (refine ⟨by omega, ?_⟩; repeat (first | assumption | constructor)) | assumption))); intro _; try simp )
    | fail)
  refine CondK.intro (fun h1 => ?_) (fun h1 => ?_)
  · simp at h1
    simp [h1]
  · simp at h1
    subst h1
    try simp 
    repeat' (first
      | (refine CallX.pure (hi) (by simp) (by simp) ?_; try simp )
      | (refine CallK.intro (hi) (by simp) (by simp) ?_; try simp )
      | (refine CallG.intro (fun _ => hi) (by simp) (by simp) ?_; try simp )
      | ((with_reducible refine PreK.intro ?_ ?_); (next => (first | omega | (intros; first | omega | (refine ⟨by omega, ?_⟩; repeat (first | assumption | constructor)) | assumption))); intro _; try simp )
      | fail)
    cases b with
    | false =>
      refine CondK.tt ?_
      try simp 
      repeat (refine PreK.intro (by first | omega | (intros; first | omega | (refine ⟨by omega, ?_⟩; simp_all; done) | (simp_all; done) | (simp_all; omega))) fun _ => ?_; (try simp ))
    | true =>
      refine CondK.ff ?_
      try simp 
      repeat (refine PreK.intro (by first | omega | (intros; first | omega | (refine ⟨by omega, ?_⟩; simp_all; done) | (simp_all; done) | (simp_all; omega))) fun _ => ?_; (try simp ))
theorem rordered_c (n : Int) (f : List (List Int)) (o : List Int) (h : Sm f) (ho : o.length ≤ 100) : CallP Try.prog 60 [iv n, tabV f, ints o] (iv (ordErr n f o)) := by
  refine C60 (by simp) ?_
  have hv := rValidateFamily_c n f h
  have hi := risOrder_c o n (by omega)
  unfold ordErr
  generalize famErr n f = e at *
  generalize isOrdB o n = b at *
  simp [A60]
  try simp 
  repeat' (first
    | (refine CallX.pure (hv) (by simp) (by simp) ?_; try simp )
    | (refine CallK.intro (hv) (by simp) (by simp) ?_; try simp )
    | (refine CallG.intro (fun _ => hv) (by simp) (by simp) ?_; try simp )
    | ((with_reducible refine PreK.intro ?_ ?_); (next => (first | omega | (intros; first | omega | (refine ⟨by omega, ?_⟩; repeat (first | assumption | constructor)) | assumption))); intro _; try simp )
    | fail)
  refine CondK.intro (fun h1 => ?_) (fun h1 => ?_)
  · simp at h1
    simp [h1]
  · simp at h1
    subst h1
    try simp 
    repeat' (first
      | (refine CallX.pure (hi) (by simp) (by simp) ?_; try simp )
      | (refine CallK.intro (hi) (by simp) (by simp) ?_; try simp )
      | (refine CallG.intro (fun _ => hi) (by simp) (by simp) ?_; try simp )
      | ((with_reducible refine PreK.intro ?_ ?_); (next => (first | omega | (intros; first | omega | (refine ⟨by omega, ?_⟩; repeat (first | assumption | constructor)) | assumption))); intro _; try simp )
      | fail)
    cases b with
    | false =>
      refine CondK.tt ?_
      try simp 
      repeat (refine PreK.intro (by first | omega | (intros; first | omega | (refine ⟨by omega, ?_⟩; simp_all; done) | (simp_all; done) | (simp_all; omega))) fun _ => ?_; (try simp ))
    | true =>
      refine CondK.ff ?_
      try simp 
      repeat (refine PreK.intro (by first | omega | (intros; first | omega | (refine ⟨by omega, ?_⟩; simp_all; done) | (simp_all; done) | (simp_all; omega))) fun _ => ?_; (try simp ))
def FitsE (n : Int) (f : List (List Int)) (o : List Int) : Bool × Int := if ordErr n f o ≠ 0 then (false, ordErr n f o) else (fitsM o f, 0)
theorem Fits_c (n : Int) (f : List (List Int)) (o : List Int) (h : Sm f) (ho : o.length ≤ 100) : CallP Try.prog 27 [iv n, tabV f, ints o] (.tup [bv (FitsE n f o).1, iv (FitsE n f o).2]) := by
  refine C27 (by simp) ?_
  have hv := ordered_c n f o h ho
  have hi := ends_c f o h ho
  unfold FitsE
  generalize ordErr n f o = e at *
  generalize fitsM o f = b at *
  simp [A27]
  try simp 
  repeat' (first
    | (refine CallX.pure (hv) (by simp) (by simp) ?_; try simp )
    | (refine CallK.intro (hv) (by simp) (by simp) ?_; try simp )
    | (refine CallG.intro (fun _ => hv) (by simp) (by simp) ?_; try simp )
    | ((with_reducible refine PreK.intro ?_ ?_); (next => (first | omega | (intros; first | omega | (refine ⟨by omega, ?_⟩; repeat (first | assumption | constructor)) | assumption))); intro _; try simp )
    | fail)
  refine CondK.intro (fun h1 => ?_) (fun h1 => ?_)
  · simp at h1
    simp [h1]
  · simp at h1
    subst h1
    try simp 
    repeat' (first
      | (refine CallX.pure (hi) (by simp) (by simp) ?_; try simp )
      | (refine CallK.intro (hi) (by simp) (by simp) ?_; try simp )
      | (refine CallG.intro (fun _ => hi) (by simp) (by simp) ?_; try simp )
      | ((with_reducible refine PreK.intro ?_ ?_); (next => (first | omega | (intros; first | omega | (refine ⟨by omega, ?_⟩; repeat (first | assumption | constructor)) | assumption))); intro _; try simp )
      | fail)
    repeat (refine PreK.intro (by first | omega | (intros; first | omega | (refine ⟨by omega, ?_⟩; simp_all; done) | (simp_all; done) | (simp_all; omega))) fun _ => ?_; (try simp ))
theorem rFits_c (n : Int) (f : List (List Int)) (o : List Int) (h : Sm f) (ho : o.length ≤ 100) : CallP Try.prog 28 [iv n, tabV f, ints o] (.tup [bv (FitsE n f o).1, iv (FitsE n f o).2]) := by
  refine C28 (by simp) ?_
  have hv := rordered_c n f o h ho
  unfold FitsE
  by_cases h0 : ordErr n f o = 0
  · obtain ⟨k, rfl, hf, hok⟩ := ordErr_zero h0
    have hi := rfits_c f o k hf hok
    rw [h0] at hv ⊢
    generalize fitsM o f = b at *
    simp [A28]
    try simp 
    repeat' (first
      | (refine CallX.pure (hv) (by simp) (by simp) ?_; try simp )
      | (refine CallK.intro (hv) (by simp) (by simp) ?_; try simp )
      | (refine CallG.intro (fun _ => hv) (by simp) (by simp) ?_; try simp )
      | ((with_reducible refine PreK.intro ?_ ?_); (next => (first | omega | (intros; first | omega | (refine ⟨by omega, ?_⟩; repeat (first | assumption | constructor)) | assumption))); intro _; try simp )
      | fail)
    refine CondK.ff ?_
    try simp 
    try simp 
    repeat' (first
      | (refine CallX.pure (hi) (by simp) (by simp) ?_; try simp )
      | (refine CallK.intro (hi) (by simp) (by simp) ?_; try simp )
      | (refine CallG.intro (fun _ => hi) (by simp) (by simp) ?_; try simp )
      | ((with_reducible refine PreK.intro ?_ ?_); (next => (first | omega | (intros; first | omega | (refine ⟨by omega, ?_⟩; repeat (first | assumption | constructor)) | assumption))); intro _; try simp )
      | fail)
    repeat (refine PreK.intro (by first | omega | (intros; first | omega | (refine ⟨by omega, ?_⟩; simp_all; done) | (simp_all; done) | (simp_all; omega))) fun _ => ?_; (try simp ))
  · rw [if_pos h0]
    generalize ordErr n f o = e at *
    simp [A28]
    try simp 
    repeat' (first
      | (refine CallX.pure (hv) (by simp) (by simp) ?_; try simp )
      | (refine CallK.intro (hv) (by simp) (by simp) ?_; try simp )
      | (refine CallG.intro (fun _ => hv) (by simp) (by simp) ?_; try simp )
      | ((with_reducible refine PreK.intro ?_ ?_); (next => (first | omega | (intros; first | omega | (refine ⟨by omega, ?_⟩; repeat (first | assumption | constructor)) | assumption))); intro _; try simp )
      | fail)
    refine CondK.intro (fun h1 => ?_) (fun h1 => ?_)
    · repeat (refine PreK.intro (by first | omega | (intros; first | omega | (refine ⟨by omega, ?_⟩; simp_all; done) | (simp_all; done) | (simp_all; omega))) fun _ => ?_; (try simp ))
    · simp at h1
      exact absurd h1 h0
theorem large_c (l : List Int) : CallP Try.prog 26 [ints l] (bv (decide (100 < l.length))) := by
  refine C26 (by simp) ?_
  simp [A26]
  omega
def longT (t : List (List Int)) : Bool := decide (50 < t.length) || t.any fun r => decide (100 < r.length)
theorem longT_small {t : List (List Int)} (h : longT t = false) : Sm t := by
  unfold longT at h
  simp only [Bool.or_eq_false_iff, decide_eq_false_iff_not, List.any_eq_false, decide_eq_true_eq] at h
  exact ⟨by omega, fun r hr => by have := h.2 r hr; omega⟩
theorem Long_c (t : List (List Int)) (hb : t.length ≤ big) : CallP Try.prog 9 [tabV t] (bv (longT t)) := by
  refine C9 (by simp) ?_
  generalize hR : longT t = R
  unfold longT at hR
  simp [A9]
  refine CondK.intro (fun h1 => ?_) (fun h1 => ?_)
  · simp at h1
    have h1' : 50 < t.length := by omega
    simp only [h1', decide_true, Bool.true_or] at hR
    try simp 
    first | exact hR | exact hR.symm
  · simp at h1
    have h1' : ¬ 50 < t.length := by omega
    simp only [h1', decide_false, Bool.false_or] at hR
    try simp 
    refine LoopK.by (fun i : Nat => ⟨[(3, iv i), (0, tabV t)], []⟩) (fun i => t.length - i) (fun i => i ≤ t.length ∧ ((t.drop i).any fun r => decide (100 < r.length)) = R) 0 (by simpa using hR) (by simp) ?_
    intro i Q' ⟨hi, hc⟩ hq he hr'
    try simp 
    refine CondK.intro (fun h2 => ?_) (fun h2 => ?_)
    · simp at h2
      have hlg := large_c (el t i)
      rw [drop_cons t i h2, List.any_cons] at hc
      generalize decide (100 < (el t i).length) = b at hlg hc
      try simp [h2]
      repeat' (first
        | (refine CallX.pure (hlg) (by simp) (by simp) ?_; try simp [h2])
        | (refine CallK.intro (hlg) (by simp) (by simp) ?_; try simp [h2])
        | (refine CallG.intro (fun _ => hlg) (by simp) (by simp) ?_; try simp [h2])
        | ((with_reducible refine PreK.intro ?_ ?_); (next => (first | omega | (intros; first | omega | (refine ⟨by omega, ?_⟩; repeat (first | assumption | constructor)) | assumption))); intro _; try simp [h2])
        | fail)
      cases b with
      | true =>
        refine CondK.tt ?_
        try simp 
        apply hr'
        simpa using hc
      | false =>
        refine CondK.ff ?_
        try simp 
        repeat (refine PreK.intro (by first | omega | (intros; first | omega | (refine ⟨by omega, ?_⟩; simp_all; done) | (simp_all; done) | (simp_all; omega))) fun _ => ?_; (try simp ))
        exact hq (i + 1) _ ⟨by omega, by simpa using hc⟩ (by omega) (by simp)
    · simp at h2
      rw [List.drop_eq_nil_of_le (by omega)] at hc
      simp only [List.any_nil] at hc
      try simp 
      apply he
      try simp 
      first | exact hc | exact hc.symm
end Go.Proofs.Ytgfgkfkplidncaa
end

section
/- Contracts: what the program and the document say of a table: sounds, rows, names, classes. -/
namespace Go.Proofs.Ytgfgkfkplidncaa
open Go.Abs Go
set_option maxRecDepth 20000
set_option maxHeartbeats 2000000
attribute [local irreducible] PreK CondK CallK CallG CallX LoopK
attribute [local simp] avsEq avEq akind teq vkind vEq

def SoundsE (t : Tab) : List Int × Int := if tabErr t ≠ 0 then ([], tabErr t) else (t.flatten, 0)
theorem Sounds_c (t : Tab) (h : Sm t) : CallP Try.prog 17 [tabV t] (.tup [ints (SoundsE t).1, iv (SoundsE t).2]) := by
  refine C17 (by simp) ?_
  have hv := Validate_c t h
  unfold SoundsE
  by_cases h0 : tabErr t = 0
  · have hlo := lineOf_c t (tabErr_zero.1 h0)
    rw [h0] at hv ⊢
    unfold lineV at hlo
    generalize t.flatten = L at *
    generalize rowsF 0 t = R at *
    simp [A17]
    try simp 
    repeat' (first
      | (refine CallX.pure (hv) (by simp) (by simp) ?_; try simp )
      | (refine CallK.intro (hv) (by simp) (by simp) ?_; try simp )
      | (refine CallG.intro (fun _ => hv) (by simp) (by simp) ?_; try simp )
      | ((with_reducible refine PreK.intro ?_ ?_); (next => (first | omega | (intros; first | omega | (refine ⟨by omega, ?_⟩; repeat (first | assumption | constructor)) | assumption))); intro _; try simp )
      | fail)
    refine CondK.ff ?_
    try simp 
    try simp 
    repeat' (first
      | (refine CallX.pure (hlo) (by simp) (by simp) ?_; try simp )
      | (refine CallK.intro (hlo) (by simp) (by simp) ?_; try simp )
      | (refine CallG.intro (fun _ => hlo) (by simp) (by simp) ?_; try simp )
      | ((with_reducible refine PreK.intro ?_ ?_); (next => (first | omega | (intros; first | omega | (refine ⟨by omega, ?_⟩; repeat (first | assumption | constructor)) | assumption))); intro _; try simp )
      | fail)
    repeat (refine PreK.intro (by first | omega | (intros; first | omega | (refine ⟨by omega, ?_⟩; simp_all; done) | (simp_all; done) | (simp_all; omega))) fun _ => ?_; (try simp ))
  · rw [if_pos h0]
    generalize tabErr t = e at *
    simp [A17]
    try simp 
    repeat' (first
      | (refine CallX.pure (hv) (by simp) (by simp) ?_; try simp )
      | (refine CallK.intro (hv) (by simp) (by simp) ?_; try simp )
      | (refine CallG.intro (fun _ => hv) (by simp) (by simp) ?_; try simp )
      | ((with_reducible refine PreK.intro ?_ ?_); (next => (first | omega | (intros; first | omega | (refine ⟨by omega, ?_⟩; repeat (first | assumption | constructor)) | assumption))); intro _; try simp )
      | fail)
    refine CondK.intro (fun h1 => ?_) (fun h1 => ?_)
    · repeat (refine PreK.intro (by first | omega | (intros; first | omega | (refine ⟨by omega, ?_⟩; simp_all; done) | (simp_all; done) | (simp_all; omega))) fun _ => ?_; (try simp ))
    · simp at h1
      exact absurd h1 h0
theorem rSounds_c (t : Tab) (h : Sm t) : CallP Try.prog 18 [tabV t] (.tup [ints (SoundsE t).1, iv (SoundsE t).2]) := by
  refine C18 (by simp) ?_
  have hv := rValidate_c t h
  have hs := rsounds_c t h
  unfold SoundsE
  generalize tabErr t = e at *
  generalize t.flatten = L at *
  simp [A18]
  try simp 
  repeat' (first
    | (refine CallX.pure (hv) (by simp) (by simp) ?_; try simp )
    | (refine CallK.intro (hv) (by simp) (by simp) ?_; try simp )
    | (refine CallG.intro (fun _ => hv) (by simp) (by simp) ?_; try simp )
    | ((with_reducible refine PreK.intro ?_ ?_); (next => (first | omega | (intros; first | omega | (refine ⟨by omega, ?_⟩; repeat (first | assumption | constructor)) | assumption))); intro _; try simp )
    | fail)
  refine CondK.intro (fun h1 => ?_) (fun h1 => ?_)
  · simp at h1
    simp [h1]
  · simp at h1
    subst h1
    try simp 
    repeat' (first
      | (refine CallX.pure (hs) (by simp) (by simp) ?_; try simp )
      | (refine CallK.intro (hs) (by simp) (by simp) ?_; try simp )
      | (refine CallG.intro (fun _ => hs) (by simp) (by simp) ?_; try simp )
      | ((with_reducible refine PreK.intro ?_ ?_); (next => (first | omega | (intros; first | omega | (refine ⟨by omega, ?_⟩; repeat (first | assumption | constructor)) | assumption))); intro _; try simp )
      | fail)
    repeat (refine PreK.intro (by first | omega | (intros; first | omega | (refine ⟨by omega, ?_⟩; simp_all; done) | (simp_all; done) | (simp_all; omega))) fun _ => ?_; (try simp ))
def RowE (t : Tab) (s : Int) : Int × Bool × Int := if tabErr t ≠ 0 then (0, false, tabErr t) else if 0 ≤ rowI s 0 t then (rowI s 0 t, true, 0) else (0, false, 0)
theorem Row_c (t : Tab) (s : Int) (h : Sm t) : CallP Try.prog 19 [tabV t, iv s] (.tup [iv (RowE t s).1, bv (RowE t s).2.1, iv (RowE t s).2.2]) := by
  refine C19 (by simp) ?_
  have hv := Validate_c t h
  unfold RowE
  by_cases h0 : tabErr t = 0
  · have hok := tabErr_zero.1 h0
    have hlo := lineOf_c t hok
    have hl := hok.len
    have hrl := rowsF_len t 0
    have hix := index_c t.flatten s (sbig (by omega))
    rw [h0] at hv ⊢
    unfold lineV at hlo
    by_cases hm : s ∈ t.flatten
    · obtain ⟨a, b, hab, ha⟩ := split_at hm
      have hidx : idxF (fun x => decide (s = x)) 0 t.flatten = (a.length : Int) := by rw [hab, idxF_at a b 0 ha]; simp
      rw [hidx] at hix
      have hal : a.length < t.flatten.length := by rw [hab]; simp
      have hrow := rows_at hab ha
      have hr0 := (row_mem t s).1 hm
      clear hab hm
      generalize rowI s 0 t = q at *
      generalize t.flatten = L at *
      generalize rowsF 0 t = R at *
      simp [A19]
      try simp 
      repeat' (first
        | (refine CallX.pure (hv) (by simp) (by simp) ?_; try simp )
        | (refine CallK.intro (hv) (by simp) (by simp) ?_; try simp )
        | (refine CallG.intro (fun _ => hv) (by simp) (by simp) ?_; try simp )
        | ((with_reducible refine PreK.intro ?_ ?_); (next => (first | omega | (intros; first | omega | (refine ⟨by omega, ?_⟩; repeat (first | assumption | constructor)) | assumption))); intro _; try simp )
        | fail)
      refine CondK.ff ?_
      try simp 
      try simp 
      repeat' (first
        | (refine CallX.pure (hlo) (by simp) (by simp) ?_; try simp )
        | (refine CallK.intro (hlo) (by simp) (by simp) ?_; try simp )
        | (refine CallG.intro (fun _ => hlo) (by simp) (by simp) ?_; try simp )
        | ((with_reducible refine PreK.intro ?_ ?_); (next => (first | omega | (intros; first | omega | (refine ⟨by omega, ?_⟩; repeat (first | assumption | constructor)) | assumption))); intro _; try simp )
        | fail)
      repeat (refine PreK.intro (by first | omega | (intros; first | omega | (refine ⟨by omega, ?_⟩; simp_all; done) | (simp_all; done) | (simp_all; omega))) fun _ => ?_; (try simp ))
      try simp 
      repeat' (first
        | (refine CallX.pure (hix) (by simp) (by simp) ?_; try simp )
        | (refine CallK.intro (hix) (by simp) (by simp) ?_; try simp )
        | (refine CallG.intro (fun _ => hix) (by simp) (by simp) ?_; try simp )
        | ((with_reducible refine PreK.intro ?_ ?_); (next => (first | omega | (intros; first | omega | (refine ⟨by omega, ?_⟩; repeat (first | assumption | constructor)) | assumption))); intro _; try simp )
        | fail)
      try simp [hal, hrl, hrow]
      repeat (refine PreK.intro (by first | omega | (intros; first | omega | (refine ⟨by omega, ?_⟩; simp_all; done) | (simp_all; done) | (simp_all; omega))) fun _ => ?_; (try simp [hal, hrl, hrow]))
      refine CondK.tt ?_
      try simp 
      try simp [hal, hrl, hrow, hr0]
      repeat (refine PreK.intro (by first | omega | (intros; first | omega | (refine ⟨by omega, ?_⟩; simp_all; done) | (simp_all; done) | (simp_all; omega))) fun _ => ?_; (try simp [hal, hrl, hrow, hr0]))
    · have hidx := idxF_none t.flatten 0 hm
      rw [hidx] at hix
      have hr0 : ¬ 0 ≤ rowI s 0 t := fun h => hm ((row_mem t s).2 h)
      clear hm
      generalize rowI s 0 t = q at *
      generalize t.flatten = L at *
      generalize rowsF 0 t = R at *
      simp [A19]
      try simp 
      repeat' (first
        | (refine CallX.pure (hv) (by simp) (by simp) ?_; try simp )
        | (refine CallK.intro (hv) (by simp) (by simp) ?_; try simp )
        | (refine CallG.intro (fun _ => hv) (by simp) (by simp) ?_; try simp )
        | ((with_reducible refine PreK.intro ?_ ?_); (next => (first | omega | (intros; first | omega | (refine ⟨by omega, ?_⟩; repeat (first | assumption | constructor)) | assumption))); intro _; try simp )
        | fail)
      refine CondK.ff ?_
      try simp 
      try simp 
      repeat' (first
        | (refine CallX.pure (hlo) (by simp) (by simp) ?_; try simp )
        | (refine CallK.intro (hlo) (by simp) (by simp) ?_; try simp )
        | (refine CallG.intro (fun _ => hlo) (by simp) (by simp) ?_; try simp )
        | ((with_reducible refine PreK.intro ?_ ?_); (next => (first | omega | (intros; first | omega | (refine ⟨by omega, ?_⟩; repeat (first | assumption | constructor)) | assumption))); intro _; try simp )
        | fail)
      repeat (refine PreK.intro (by first | omega | (intros; first | omega | (refine ⟨by omega, ?_⟩; simp_all; done) | (simp_all; done) | (simp_all; omega))) fun _ => ?_; (try simp ))
      try simp 
      repeat' (first
        | (refine CallX.pure (hix) (by simp) (by simp) ?_; try simp )
        | (refine CallK.intro (hix) (by simp) (by simp) ?_; try simp )
        | (refine CallG.intro (fun _ => hix) (by simp) (by simp) ?_; try simp )
        | ((with_reducible refine PreK.intro ?_ ?_); (next => (first | omega | (intros; first | omega | (refine ⟨by omega, ?_⟩; repeat (first | assumption | constructor)) | assumption))); intro _; try simp )
        | fail)
      try simp 
      repeat (refine PreK.intro (by first | omega | (intros; first | omega | (refine ⟨by omega, ?_⟩; simp_all; done) | (simp_all; done) | (simp_all; omega))) fun _ => ?_; (try simp ))
      refine CondK.ff ?_
      try simp 
      try simp [hr0]
      repeat (refine PreK.intro (by first | omega | (intros; first | omega | (refine ⟨by omega, ?_⟩; simp_all; done) | (simp_all; done) | (simp_all; omega))) fun _ => ?_; (try simp [hr0]))
  · rw [if_pos h0]
    generalize tabErr t = e at *
    simp [A19]
    try simp 
    repeat' (first
      | (refine CallX.pure (hv) (by simp) (by simp) ?_; try simp )
      | (refine CallK.intro (hv) (by simp) (by simp) ?_; try simp )
      | (refine CallG.intro (fun _ => hv) (by simp) (by simp) ?_; try simp )
      | ((with_reducible refine PreK.intro ?_ ?_); (next => (first | omega | (intros; first | omega | (refine ⟨by omega, ?_⟩; repeat (first | assumption | constructor)) | assumption))); intro _; try simp )
      | fail)
    refine CondK.intro (fun h1 => ?_) (fun h1 => ?_)
    · repeat (refine PreK.intro (by first | omega | (intros; first | omega | (refine ⟨by omega, ?_⟩; simp_all; done) | (simp_all; done) | (simp_all; omega))) fun _ => ?_; (try simp ))
    · simp at h1
      exact absurd h1 h0
theorem rRow_c (t : Tab) (s : Int) (h : Sm t) : CallP Try.prog 20 [tabV t, iv s] (.tup [iv (RowE t s).1, bv (RowE t s).2.1, iv (RowE t s).2.2]) := by
  refine C20 (by simp) ?_
  have hv := rValidate_c t h
  have hs := rrow_c t s h
  unfold RowE
  generalize tabErr t = e at *
  generalize rowI s 0 t = q at *
  simp [A20]
  try simp 
  repeat' (first
    | (refine CallX.pure (hv) (by simp) (by simp) ?_; try simp )
    | (refine CallK.intro (hv) (by simp) (by simp) ?_; try simp )
    | (refine CallG.intro (fun _ => hv) (by simp) (by simp) ?_; try simp )
    | ((with_reducible refine PreK.intro ?_ ?_); (next => (first | omega | (intros; first | omega | (refine ⟨by omega, ?_⟩; repeat (first | assumption | constructor)) | assumption))); intro _; try simp )
    | fail)
  refine CondK.intro (fun h1 => ?_) (fun h1 => ?_)
  · simp at h1
    simp [h1]
  · simp at h1
    subst h1
    try simp 
    repeat' (first
      | (refine CallX.pure (hs) (by simp) (by simp) ?_; try simp )
      | (refine CallK.intro (hs) (by simp) (by simp) ?_; try simp )
      | (refine CallG.intro (fun _ => hs) (by simp) (by simp) ?_; try simp )
      | ((with_reducible refine PreK.intro ?_ ?_); (next => (first | omega | (intros; first | omega | (refine ⟨by omega, ?_⟩; repeat (first | assumption | constructor)) | assumption))); intro _; try simp )
      | fail)
    refine CondK.intro (fun h2 => ?_) (fun h2 => ?_)
    · simp at h2
      simp [show ¬ 0 ≤ q by omega]
    · simp at h2
      try simp 
      repeat' (first
        | (refine CallX.pure (hs) (by simp) (by simp) ?_; try simp )
        | (refine CallK.intro (hs) (by simp) (by simp) ?_; try simp )
        | (refine CallG.intro (fun _ => hs) (by simp) (by simp) ?_; try simp )
        | ((with_reducible refine PreK.intro ?_ ?_); (next => (first | omega | (intros; first | omega | (refine ⟨by omega, ?_⟩; repeat (first | assumption | constructor)) | assumption))); intro _; try simp )
        | fail)
      simp [h2]
def NamesE (t : Tab) : List (Int × Int) × Int := if tabErr t ≠ 0 then ([], tabErr t) else (namesM t, 0)
theorem Names_c (t : Tab) (h : Sm t) : CallP Try.prog 11 [tabV t] (.tup [namesV (NamesE t).1, iv (NamesE t).2]) := by
  refine C11 (by simp) ?_
  have hv := Validate_c t h
  unfold NamesE
  by_cases h0 : tabErr t = 0
  · have hlo := names_c t (tabErr_zero.1 h0)
    rw [h0] at hv ⊢
    generalize namesM t = L at *
    simp [A11]
    try simp 
    repeat' (first
      | (refine CallX.pure (hv) (by simp) (by simp) ?_; try simp )
      | (refine CallK.intro (hv) (by simp) (by simp) ?_; try simp )
      | (refine CallG.intro (fun _ => hv) (by simp) (by simp) ?_; try simp )
      | ((with_reducible refine PreK.intro ?_ ?_); (next => (first | omega | (intros; first | omega | (refine ⟨by omega, ?_⟩; repeat (first | assumption | constructor)) | assumption))); intro _; try simp )
      | fail)
    refine CondK.ff ?_
    try simp 
    try simp 
    repeat' (first
      | (refine CallX.pure (hlo) (by simp) (by simp) ?_; try simp )
      | (refine CallK.intro (hlo) (by simp) (by simp) ?_; try simp )
      | (refine CallG.intro (fun _ => hlo) (by simp) (by simp) ?_; try simp )
      | ((with_reducible refine PreK.intro ?_ ?_); (next => (first | omega | (intros; first | omega | (refine ⟨by omega, ?_⟩; repeat (first | assumption | constructor)) | assumption))); intro _; try simp )
      | fail)
    repeat (refine PreK.intro (by first | omega | (intros; first | omega | (refine ⟨by omega, ?_⟩; simp_all; done) | (simp_all; done) | (simp_all; omega))) fun _ => ?_; (try simp ))
  · rw [if_pos h0]
    generalize tabErr t = e at *
    simp [A11]
    try simp 
    repeat' (first
      | (refine CallX.pure (hv) (by simp) (by simp) ?_; try simp )
      | (refine CallK.intro (hv) (by simp) (by simp) ?_; try simp )
      | (refine CallG.intro (fun _ => hv) (by simp) (by simp) ?_; try simp )
      | ((with_reducible refine PreK.intro ?_ ?_); (next => (first | omega | (intros; first | omega | (refine ⟨by omega, ?_⟩; repeat (first | assumption | constructor)) | assumption))); intro _; try simp )
      | fail)
    refine CondK.intro (fun h1 => ?_) (fun h1 => ?_)
    · repeat (refine PreK.intro (by first | omega | (intros; first | omega | (refine ⟨by omega, ?_⟩; simp_all; done) | (simp_all; done) | (simp_all; omega))) fun _ => ?_; (try simp ))
    · simp at h1
      exact absurd h1 h0
theorem rNames_c (t : Tab) (h : Sm t) : CallP Try.prog 12 [tabV t] (.tup [namesV (NamesE t).1, iv (NamesE t).2]) := by
  refine C12 (by simp) ?_
  have hv := rValidate_c t h
  unfold NamesE
  by_cases h0 : tabErr t = 0
  · have hlo := rnames_c t (tabErr_zero.1 h0)
    rw [h0] at hv ⊢
    generalize namesM t = L at *
    simp [A12]
    try simp 
    repeat' (first
      | (refine CallX.pure (hv) (by simp) (by simp) ?_; try simp )
      | (refine CallK.intro (hv) (by simp) (by simp) ?_; try simp )
      | (refine CallG.intro (fun _ => hv) (by simp) (by simp) ?_; try simp )
      | ((with_reducible refine PreK.intro ?_ ?_); (next => (first | omega | (intros; first | omega | (refine ⟨by omega, ?_⟩; repeat (first | assumption | constructor)) | assumption))); intro _; try simp )
      | fail)
    refine CondK.ff ?_
    try simp 
    try simp 
    repeat' (first
      | (refine CallX.pure (hlo) (by simp) (by simp) ?_; try simp )
      | (refine CallK.intro (hlo) (by simp) (by simp) ?_; try simp )
      | (refine CallG.intro (fun _ => hlo) (by simp) (by simp) ?_; try simp )
      | ((with_reducible refine PreK.intro ?_ ?_); (next => (first | omega | (intros; first | omega | (refine ⟨by omega, ?_⟩; repeat (first | assumption | constructor)) | assumption))); intro _; try simp )
      | fail)
    repeat (refine PreK.intro (by first | omega | (intros; first | omega | (refine ⟨by omega, ?_⟩; simp_all; done) | (simp_all; done) | (simp_all; omega))) fun _ => ?_; (try simp ))
  · rw [if_pos h0]
    generalize tabErr t = e at *
    simp [A12]
    try simp 
    repeat' (first
      | (refine CallX.pure (hv) (by simp) (by simp) ?_; try simp )
      | (refine CallK.intro (hv) (by simp) (by simp) ?_; try simp )
      | (refine CallG.intro (fun _ => hv) (by simp) (by simp) ?_; try simp )
      | ((with_reducible refine PreK.intro ?_ ?_); (next => (first | omega | (intros; first | omega | (refine ⟨by omega, ?_⟩; repeat (first | assumption | constructor)) | assumption))); intro _; try simp )
      | fail)
    refine CondK.intro (fun h1 => ?_) (fun h1 => ?_)
    · repeat (refine PreK.intro (by first | omega | (intros; first | omega | (refine ⟨by omega, ?_⟩; simp_all; done) | (simp_all; done) | (simp_all; omega))) fun _ => ?_; (try simp ))
    · simp at h1
      exact absurd h1 h0
def ClassesE (t : Tab) : List (List Int) × Int := if tabErr t ≠ 0 then ([], tabErr t) else (classesM t, 0)
theorem Classes_c (t : Tab) (h : Sm t) : CallP Try.prog 13 [tabV t] (.tup [tabV (ClassesE t).1, iv (ClassesE t).2]) := by
  refine C13 (by simp) ?_
  have hv := Validate_c t h
  unfold ClassesE
  by_cases h0 : tabErr t = 0
  · have hlo := classes_c t (tabErr_zero.1 h0)
    rw [h0] at hv ⊢
    generalize classesM t = L at *
    simp [A13]
    try simp 
    repeat' (first
      | (refine CallX.pure (hv) (by simp) (by simp) ?_; try simp )
      | (refine CallK.intro (hv) (by simp) (by simp) ?_; try simp )
      | (refine CallG.intro (fun _ => hv) (by simp) (by simp) ?_; try simp )
      | ((with_reducible refine PreK.intro ?_ ?_); (next => (first | omega | (intros; first | omega | (refine ⟨by omega, ?_⟩; repeat (first | assumption | constructor)) | assumption))); intro _; try simp )
      | fail)
    refine CondK.ff ?_
    try simp 
    try simp 
    repeat' (first
      | (refine CallX.pure (hlo) (by simp) (by simp) ?_; try simp )
      | (refine CallK.intro (hlo) (by simp) (by simp) ?_; try simp )
      | (refine CallG.intro (fun _ => hlo) (by simp) (by simp) ?_; try simp )
      | ((with_reducible refine PreK.intro ?_ ?_); (next => (first | omega | (intros; first | omega | (refine ⟨by omega, ?_⟩; repeat (first | assumption | constructor)) | assumption))); intro _; try simp )
      | fail)
    repeat (refine PreK.intro (by first | omega | (intros; first | omega | (refine ⟨by omega, ?_⟩; simp_all; done) | (simp_all; done) | (simp_all; omega))) fun _ => ?_; (try simp ))
  · rw [if_pos h0]
    generalize tabErr t = e at *
    simp [A13]
    try simp 
    repeat' (first
      | (refine CallX.pure (hv) (by simp) (by simp) ?_; try simp )
      | (refine CallK.intro (hv) (by simp) (by simp) ?_; try simp )
      | (refine CallG.intro (fun _ => hv) (by simp) (by simp) ?_; try simp )
      | ((with_reducible refine PreK.intro ?_ ?_); (next => (first | omega | (intros; first | omega | (refine ⟨by omega, ?_⟩; repeat (first | assumption | constructor)) | assumption))); intro _; try simp )
      | fail)
    refine CondK.intro (fun h1 => ?_) (fun h1 => ?_)
    · repeat (refine PreK.intro (by first | omega | (intros; first | omega | (refine ⟨by omega, ?_⟩; simp_all; done) | (simp_all; done) | (simp_all; omega))) fun _ => ?_; (try simp ))
    · simp at h1
      exact absurd h1 h0
theorem stand_srt {t : Tab} (h : TabOK t) (s : Int) (r : Nat) : standM t s r = srtM (segM t s r) := srtM_eq (seg_nd h s r) fun x hx => seg_val h hx
theorem rClasses_c (t : Tab) (h : Sm t) : CallP Try.prog 14 [tabV t] (.tup [tabV (ClassesE t).1, iv (ClassesE t).2]) := by
  refine C14 (by simp) ?_
  have hv := rValidate_c t h
  unfold ClassesE
  by_cases h0 : tabErr t = 0
  · have hok := tabErr_zero.1 h0
    have hlo := rnames_c t hok
    have hnn := names_num hok
    have hst : ∀ x ∈ namesM t, CallP Try.prog 40 [tabV t, pairV x] (ints (standM t x.1 x.2.toNat)) ∧ (standM t x.1 x.2.toNat).length ≤ 6 := by
      intro x hx
      obtain ⟨s, r⟩ := x
      obtain ⟨h1, h2, h3⟩ := name_of ((mem_namesM hok).1 hx)
      obtain ⟨k, rfl⟩ : ∃ k : Nat, r = (k : Int) := ⟨r.toNat, by omega⟩
      simp only [Int.toNat_natCast] at h2 h3 ⊢
      rw [stand_srt hok]
      refine ⟨rstand_c t hok s k h2, ?_⟩
      rw [← stand_srt hok]
      exact six_len ((sortI_perm _).nodup_iff.2 (seg_nd hok _ _)) fun y hy => seg_val hok (mem_sortI.1 hy)
    rw [h0] at hv ⊢
    have hcl : classesM t = insA [] (setsM t) := uniq_insA fun z => Iff.rfl
    rw [hcl]
    unfold setsM
    generalize namesM t = N at *
    generalize hR : insA [] (N.map fun n => standM t n.1 n.2.toNat) = R
    simp [A14]
    try simp 
    repeat' (first
      | (refine CallX.pure (hv) (by simp) (by simp) ?_; try simp )
      | (refine CallK.intro (hv) (by simp) (by simp) ?_; try simp )
      | (refine CallG.intro (fun _ => hv) (by simp) (by simp) ?_; try simp )
      | ((with_reducible refine PreK.intro ?_ ?_); (next => (first | omega | (intros; first | omega | (refine ⟨by omega, ?_⟩; repeat (first | assumption | constructor)) | assumption))); intro _; try simp )
      | fail)
    refine CondK.ff ?_
    try simp 
    repeat (refine PreK.intro (by first | omega | (intros; first | omega | (refine ⟨by omega, ?_⟩; simp_all; done) | (simp_all; done) | (simp_all; omega))) fun _ => ?_; (try simp ))
    try simp 
    repeat' (first
      | (refine CallX.pure (hlo) (by simp) (by simp) ?_; try simp )
      | (refine CallK.intro (hlo) (by simp) (by simp) ?_; try simp )
      | (refine CallG.intro (fun _ => hlo) (by simp) (by simp) ?_; try simp )
      | ((with_reducible refine PreK.intro ?_ ?_); (next => (first | omega | (intros; first | omega | (refine ⟨by omega, ?_⟩; repeat (first | assumption | constructor)) | assumption))); intro _; try simp )
      | fail)
    refine LoopK.frz 5 (b := ⟨1, [], 1, false⟩) (by simp) (by simp) ?_
    try simp 
    refine LoopK.by (ι := Nat × List (List Int)) (fun x => ⟨[(7, iv x.1), (6, namesV N), (5, tabV x.2), (0, tabV t)], []⟩) (fun x => N.length - x.1) (fun x => x.1 ≤ N.length ∧ x.2.length ≤ x.1 ∧ (∀ w ∈ x.2, w.length ≤ 6) ∧ insA x.2 ((N.drop x.1).map fun n => standM t n.1 n.2.toNat) = R) (0, []) ⟨Nat.zero_le _, Nat.zero_le _, by simp, by simpa using hR⟩ (by simp) ?_
    intro ⟨i, acc⟩ Q' ⟨hi, hal, haw, hc⟩ hq he hr
    dsimp only at hi hal haw hc
    try simp 
    refine CondK.intro (fun h1 => ?_) (fun h1 => ?_)
    · simp at h1
      obtain ⟨hs1, hs2⟩ := hst _ (el_mem_of N i h1)
      rw [drop_cons N i h1, List.map_cons, insA] at hc
      generalize standM t (el N i).1 (el N i).2.toNat = st at *
      have hin := insert_c acc st (by omega) (fun x hx => by have := haw x hx; omega) (by omega)
      have hil := insM_len st acc
      have hiw : ∀ w ∈ insM st acc, w.length ≤ 6 := fun w hw => by
        rcases mem_insM.1 hw with rfl | hw
        · exact hs2
        · exact haw w hw
      generalize insM st acc = ac2 at *
      try simp [h1]
      repeat (refine PreK.intro (by first | omega | (intros; first | omega | (refine ⟨by omega, ?_⟩; simp_all; done) | (simp_all; done) | (simp_all; omega))) fun _ => ?_; (try simp [h1]))
      try simp [h1]
      repeat' (first
        | (refine CallX.pure (hs1) (by simp) (by simp) ?_; try simp [h1])
        | (refine CallK.intro (hs1) (by simp) (by simp) ?_; try simp [h1])
        | (refine CallG.intro (fun _ => hs1) (by simp) (by simp) ?_; try simp [h1])
        | ((with_reducible refine PreK.intro ?_ ?_); (next => (first | omega | (intros; first | omega | (refine ⟨by omega, ?_⟩; repeat (first | assumption | constructor)) | assumption))); intro _; try simp [h1])
        | fail)
      try simp 
      repeat' (first
        | (refine CallX.pure (hin) (by simp) (by simp) ?_; try simp )
        | (refine CallK.intro (hin) (by simp) (by simp) ?_; try simp )
        | (refine CallG.intro (fun _ => hin) (by simp) (by simp) ?_; try simp )
        | ((with_reducible refine PreK.intro ?_ ?_); (next => (first | omega | (intros; first | omega | (refine ⟨by omega, ?_⟩; repeat (first | assumption | constructor)) | assumption))); intro _; try simp )
        | fail)
      repeat (refine PreK.intro (by first | omega | (intros; first | omega | (refine ⟨by omega, ?_⟩; simp_all; done) | (simp_all; done) | (simp_all; omega))) fun _ => ?_; (try simp ))
      exact hq (i + 1, ac2) _ ⟨by dsimp only; omega, by dsimp only; omega, hiw, hc⟩ (by dsimp only; omega) (by simp)
    · simp at h1
      rw [List.drop_eq_nil_of_le (by omega), List.map_nil, insA] at hc
      subst hc
      try simp 
      apply he
      repeat (refine PreK.intro (by first | omega | (intros; first | omega | (refine ⟨by omega, ?_⟩; simp_all; done) | (simp_all; done) | (simp_all; omega))) fun _ => ?_; (try simp ))
  · rw [if_pos h0]
    generalize tabErr t = e at *
    simp [A14]
    try simp 
    repeat' (first
      | (refine CallX.pure (hv) (by simp) (by simp) ?_; try simp )
      | (refine CallK.intro (hv) (by simp) (by simp) ?_; try simp )
      | (refine CallG.intro (fun _ => hv) (by simp) (by simp) ?_; try simp )
      | ((with_reducible refine PreK.intro ?_ ?_); (next => (first | omega | (intros; first | omega | (refine ⟨by omega, ?_⟩; repeat (first | assumption | constructor)) | assumption))); intro _; try simp )
      | fail)
    refine CondK.intro (fun h1 => ?_) (fun h1 => ?_)
    · repeat (refine PreK.intro (by first | omega | (intros; first | omega | (refine ⟨by omega, ?_⟩; simp_all; done) | (simp_all; done) | (simp_all; omega))) fun _ => ?_; (try simp ))
    · simp at h1
      exact absurd h1 h0
def StandE (t : Tab) (s r : Int) : List Int × Int := if tabErr t ≠ 0 then ([], tabErr t) else if isName t s r then (standM t s r.toNat, 0) else ([], 4)
theorem Stand_c (t : Tab) (s r : Int) (h : Sm t) : CallP Try.prog 33 [tabV t, pairV (s, r)] (.tup [ints (StandE t s r).1, iv (StandE t s r).2]) := by
  refine C33 (by simp) ?_
  have hv := Validate_c t h
  unfold StandE
  by_cases h0 : tabErr t = 0
  · have hlo := lineOf_c t (tabErr_zero.1 h0)
    have hst := stand_c t (tabErr_zero.1 h0) s r
    rw [h0] at hv ⊢
    unfold lineV at hlo hst
    unfold standE at hst
    generalize t.flatten = L at *
    generalize rowsF 0 t = R at *
    generalize standM t s r.toNat = S at *
    generalize isName t s r = b at *
    simp [A33]
    try simp 
    repeat' (first
      | (refine CallX.pure (hv) (by simp) (by simp) ?_; try simp )
      | (refine CallK.intro (hv) (by simp) (by simp) ?_; try simp )
      | (refine CallG.intro (fun _ => hv) (by simp) (by simp) ?_; try simp )
      | ((with_reducible refine PreK.intro ?_ ?_); (next => (first | omega | (intros; first | omega | (refine ⟨by omega, ?_⟩; repeat (first | assumption | constructor)) | assumption))); intro _; try simp )
      | fail)
    refine CondK.ff ?_
    try simp 
    repeat (refine PreK.intro (by first | omega | (intros; first | omega | (refine ⟨by omega, ?_⟩; simp_all; done) | (simp_all; done) | (simp_all; omega))) fun _ => ?_; (try simp ))
    refine CallK.intro (by simpa using hlo) (by simp) (by simp) ?_
    try simp 
    repeat (refine PreK.intro (by first | omega | (intros; first | omega | (refine ⟨by omega, ?_⟩; simp_all; done) | (simp_all; done) | (simp_all; omega))) fun _ => ?_; (try simp ))
    cases b with
    | true =>
      simp only [if_true] at hst
      refine CallK.intro (by simpa using hst) (by simp) (by simp) ?_
      try simp 
      try simp 
      repeat (refine PreK.intro (by first | omega | (intros; first | omega | (refine ⟨by omega, ?_⟩; simp_all; done) | (simp_all; done) | (simp_all; omega))) fun _ => ?_; (try simp ))
      refine CondK.ff ?_
      try simp 
      repeat (refine PreK.intro (by first | omega | (intros; first | omega | (refine ⟨by omega, ?_⟩; simp_all; done) | (simp_all; done) | (simp_all; omega))) fun _ => ?_; (try simp ))
    | false =>
      simp only [Bool.false_eq_true, if_false] at hst
      refine CallK.intro (by simpa using hst) (by simp) (by simp) ?_
      try simp 
      try simp 
      repeat (refine PreK.intro (by first | omega | (intros; first | omega | (refine ⟨by omega, ?_⟩; simp_all; done) | (simp_all; done) | (simp_all; omega))) fun _ => ?_; (try simp ))
      refine CondK.tt ?_
      try simp 
      repeat (refine PreK.intro (by first | omega | (intros; first | omega | (refine ⟨by omega, ?_⟩; simp_all; done) | (simp_all; done) | (simp_all; omega))) fun _ => ?_; (try simp ))
  · rw [if_pos h0]
    generalize tabErr t = e at *
    simp [A33]
    try simp 
    repeat' (first
      | (refine CallX.pure (hv) (by simp) (by simp) ?_; try simp )
      | (refine CallK.intro (hv) (by simp) (by simp) ?_; try simp )
      | (refine CallG.intro (fun _ => hv) (by simp) (by simp) ?_; try simp )
      | ((with_reducible refine PreK.intro ?_ ?_); (next => (first | omega | (intros; first | omega | (refine ⟨by omega, ?_⟩; repeat (first | assumption | constructor)) | assumption))); intro _; try simp )
      | fail)
    refine CondK.intro (fun h1 => ?_) (fun h1 => ?_)
    · repeat (refine PreK.intro (by first | omega | (intros; first | omega | (refine ⟨by omega, ?_⟩; simp_all; done) | (simp_all; done) | (simp_all; omega))) fun _ => ?_; (try simp ))
    · simp at h1
      exact absurd h1 h0
theorem rStand_c (t : Tab) (s r : Int) (h : Sm t) : CallP Try.prog 34 [tabV t, pairV (s, r)] (.tup [ints (StandE t s r).1, iv (StandE t s r).2]) := by
  refine C34 (by simp) ?_
  have hv := rValidate_c t h
  have hrw := rrow_c t s h
  have hn := h.num
  unfold StandE
  by_cases h0 : tabErr t = 0
  · have hok := tabErr_zero.1 h0
    have hnr := isName_row (t := t) (s := s) (r := r)
    rw [row_mem] at hnr
    have hwi := within1_c r (rowI s 0 t) ((t.length : Int) - 1)
    rw [h0] at hv ⊢
    by_cases h1 : 0 ≤ rowI s 0 t
    · have hb : isName t s r = (decide (rowI s 0 t ≤ r) && decide (r ≤ (t.length : Int) - 1)) := by
        rw [Bool.eq_iff_iff, hnr]
        simp only [Bool.and_eq_true, decide_eq_true_eq]
        constructor
        · rintro ⟨_, a, b⟩; exact ⟨a, by omega⟩
        · rintro ⟨a, b⟩; exact ⟨h1, a, by omega⟩
      rw [← hb] at hwi
      by_cases h2 : isName t s r = true
      · obtain ⟨g1, g2, g3⟩ := name_of h2
        obtain ⟨k, rfl⟩ : ∃ k : Nat, r = (k : Int) := ⟨r.toNat, by omega⟩
        simp only [Int.toNat_natCast] at g2 g3 ⊢
        have hst := rstand_c t hok s k g2
        rw [← stand_srt hok] at hst
        rw [h2] at hwi ⊢
        generalize rowI s 0 t = q at *
        generalize standM t s k = S at *
        have h1' : ¬ q < 0 := by omega
        simp [A34]
        try simp 
        repeat' (first
          | (refine CallX.pure (hv) (by simp) (by simp) ?_; try simp )
          | (refine CallK.intro (hv) (by simp) (by simp) ?_; try simp )
          | (refine CallG.intro (fun _ => hv) (by simp) (by simp) ?_; try simp )
          | ((with_reducible refine PreK.intro ?_ ?_); (next => (first | omega | (intros; first | omega | (refine ⟨by omega, ?_⟩; repeat (first | assumption | constructor)) | assumption))); intro _; try simp )
          | fail)
        refine CondK.ff ?_
        try simp 
        repeat (refine PreK.intro (by first | omega | (intros; first | omega | (refine ⟨by omega, ?_⟩; simp_all; done) | (simp_all; done) | (simp_all; omega))) fun _ => ?_; (try simp ))
        try simp 
        repeat' (first
          | (refine CallX.pure (hrw) (by simp) (by simp) ?_; try simp )
          | (refine CallK.intro (hrw) (by simp) (by simp) ?_; try simp )
          | (refine CallG.intro (fun _ => hrw) (by simp) (by simp) ?_; try simp )
          | ((with_reducible refine PreK.intro ?_ ?_); (next => (first | omega | (intros; first | omega | (refine ⟨by omega, ?_⟩; repeat (first | assumption | constructor)) | assumption))); intro _; try simp )
          | fail)
        try simp [h1']
        repeat (refine PreK.intro (by first | omega | (intros; first | omega | (refine ⟨by omega, ?_⟩; simp_all; done) | (simp_all; done) | (simp_all; omega))) fun _ => ?_; (try simp [h1']))
        try simp [h1']
        repeat' (first
          | (refine CallX.pure (hwi) (by simp) (by simp) ?_; try simp [h1'])
          | (refine CallK.intro (hwi) (by simp) (by simp) ?_; try simp [h1'])
          | (refine CallG.intro (fun _ => hwi) (by simp) (by simp) ?_; try simp [h1'])
          | ((with_reducible refine PreK.intro ?_ ?_); (next => (first | omega | (intros; first | omega | (refine ⟨by omega, ?_⟩; repeat (first | assumption | constructor)) | assumption))); intro _; try simp [h1'])
          | fail)
        try simp 
        repeat (refine PreK.intro (by first | omega | (intros; first | omega | (refine ⟨by omega, ?_⟩; simp_all; done) | (simp_all; done) | (simp_all; omega))) fun _ => ?_; (try simp ))
        refine CondK.ff ?_
        try simp 
        repeat (refine PreK.intro (by first | omega | (intros; first | omega | (refine ⟨by omega, ?_⟩; simp_all; done) | (simp_all; done) | (simp_all; omega))) fun _ => ?_; (try simp ))
        try simp 
        repeat' (first
          | (refine CallX.pure (hst) (by simp) (by simp) ?_; try simp )
          | (refine CallK.intro (hst) (by simp) (by simp) ?_; try simp )
          | (refine CallG.intro (fun _ => hst) (by simp) (by simp) ?_; try simp )
          | ((with_reducible refine PreK.intro ?_ ?_); (next => (first | omega | (intros; first | omega | (refine ⟨by omega, ?_⟩; repeat (first | assumption | constructor)) | assumption))); intro _; try simp )
          | fail)
        repeat (refine PreK.intro (by first | omega | (intros; first | omega | (refine ⟨by omega, ?_⟩; simp_all; done) | (simp_all; done) | (simp_all; omega))) fun _ => ?_; (try simp ))
      · simp only [Bool.not_eq_true] at h2
        rw [h2] at hwi ⊢
        generalize rowI s 0 t = q at *
        have h1' : ¬ q < 0 := by omega
        simp [A34]
        try simp 
        repeat' (first
          | (refine CallX.pure (hv) (by simp) (by simp) ?_; try simp )
          | (refine CallK.intro (hv) (by simp) (by simp) ?_; try simp )
          | (refine CallG.intro (fun _ => hv) (by simp) (by simp) ?_; try simp )
          | ((with_reducible refine PreK.intro ?_ ?_); (next => (first | omega | (intros; first | omega | (refine ⟨by omega, ?_⟩; repeat (first | assumption | constructor)) | assumption))); intro _; try simp )
          | fail)
        refine CondK.ff ?_
        try simp 
        repeat (refine PreK.intro (by first | omega | (intros; first | omega | (refine ⟨by omega, ?_⟩; simp_all; done) | (simp_all; done) | (simp_all; omega))) fun _ => ?_; (try simp ))
        try simp 
        repeat' (first
          | (refine CallX.pure (hrw) (by simp) (by simp) ?_; try simp )
          | (refine CallK.intro (hrw) (by simp) (by simp) ?_; try simp )
          | (refine CallG.intro (fun _ => hrw) (by simp) (by simp) ?_; try simp )
          | ((with_reducible refine PreK.intro ?_ ?_); (next => (first | omega | (intros; first | omega | (refine ⟨by omega, ?_⟩; repeat (first | assumption | constructor)) | assumption))); intro _; try simp )
          | fail)
        try simp [h1']
        repeat (refine PreK.intro (by first | omega | (intros; first | omega | (refine ⟨by omega, ?_⟩; simp_all; done) | (simp_all; done) | (simp_all; omega))) fun _ => ?_; (try simp [h1']))
        try simp [h1']
        repeat' (first
          | (refine CallX.pure (hwi) (by simp) (by simp) ?_; try simp [h1'])
          | (refine CallK.intro (hwi) (by simp) (by simp) ?_; try simp [h1'])
          | (refine CallG.intro (fun _ => hwi) (by simp) (by simp) ?_; try simp [h1'])
          | ((with_reducible refine PreK.intro ?_ ?_); (next => (first | omega | (intros; first | omega | (refine ⟨by omega, ?_⟩; repeat (first | assumption | constructor)) | assumption))); intro _; try simp [h1'])
          | fail)
        try simp 
        repeat (refine PreK.intro (by first | omega | (intros; first | omega | (refine ⟨by omega, ?_⟩; simp_all; done) | (simp_all; done) | (simp_all; omega))) fun _ => ?_; (try simp ))
        refine CondK.tt ?_
        try simp 
        repeat (refine PreK.intro (by first | omega | (intros; first | omega | (refine ⟨by omega, ?_⟩; simp_all; done) | (simp_all; done) | (simp_all; omega))) fun _ => ?_; (try simp ))
    · have hb : isName t s r = false := by
        cases hx : isName t s r with
        | false => rfl
        | true => exact absurd (hnr.1 hx).1 h1
      rw [hb]
      generalize rowI s 0 t = q at *
      have h1' : q < 0 := by omega
      simp [A34]
      try simp 
      repeat' (first
        | (refine CallX.pure (hv) (by simp) (by simp) ?_; try simp )
        | (refine CallK.intro (hv) (by simp) (by simp) ?_; try simp )
        | (refine CallG.intro (fun _ => hv) (by simp) (by simp) ?_; try simp )
        | ((with_reducible refine PreK.intro ?_ ?_); (next => (first | omega | (intros; first | omega | (refine ⟨by omega, ?_⟩; repeat (first | assumption | constructor)) | assumption))); intro _; try simp )
        | fail)
      refine CondK.ff ?_
      try simp 
      repeat (refine PreK.intro (by first | omega | (intros; first | omega | (refine ⟨by omega, ?_⟩; simp_all; done) | (simp_all; done) | (simp_all; omega))) fun _ => ?_; (try simp ))
      try simp 
      repeat' (first
        | (refine CallX.pure (hrw) (by simp) (by simp) ?_; try simp )
        | (refine CallK.intro (hrw) (by simp) (by simp) ?_; try simp )
        | (refine CallG.intro (fun _ => hrw) (by simp) (by simp) ?_; try simp )
        | ((with_reducible refine PreK.intro ?_ ?_); (next => (first | omega | (intros; first | omega | (refine ⟨by omega, ?_⟩; repeat (first | assumption | constructor)) | assumption))); intro _; try simp )
        | fail)
      try simp [h1']
      repeat (refine PreK.intro (by first | omega | (intros; first | omega | (refine ⟨by omega, ?_⟩; simp_all; done) | (simp_all; done) | (simp_all; omega))) fun _ => ?_; (try simp [h1']))
      refine CallG.intro (r := bv true) (fun hh => by cases hh) (by simp) (by simp) ?_
      try simp 
      try simp [h1']
      repeat (refine PreK.intro (by first | omega | (intros; first | omega | (refine ⟨by omega, ?_⟩; simp_all; done) | (simp_all; done) | (simp_all; omega))) fun _ => ?_; (try simp [h1']))
      refine CondK.tt ?_
      try simp 
      repeat (refine PreK.intro (by first | omega | (intros; first | omega | (refine ⟨by omega, ?_⟩; simp_all; done) | (simp_all; done) | (simp_all; omega))) fun _ => ?_; (try simp ))
  · rw [if_pos h0]
    generalize tabErr t = e at *
    simp [A34]
    try simp 
    repeat' (first
      | (refine CallX.pure (hv) (by simp) (by simp) ?_; try simp )
      | (refine CallK.intro (hv) (by simp) (by simp) ?_; try simp )
      | (refine CallG.intro (fun _ => hv) (by simp) (by simp) ?_; try simp )
      | ((with_reducible refine PreK.intro ?_ ?_); (next => (first | omega | (intros; first | omega | (refine ⟨by omega, ?_⟩; repeat (first | assumption | constructor)) | assumption))); intro _; try simp )
      | fail)
    refine CondK.intro (fun h1 => ?_) (fun h1 => ?_)
    · repeat (refine PreK.intro (by first | omega | (intros; first | omega | (refine ⟨by omega, ?_⟩; simp_all; done) | (simp_all; done) | (simp_all; omega))) fun _ => ?_; (try simp ))
    · simp at h1
      exact absurd h1 h0
end Go.Proofs.Ytgfgkfkplidncaa
end

section
/- Contracts: the document's list of all orders; its first and its best one. -/
namespace Go.Proofs.Ytgfgkfkplidncaa
open Go.Abs Go
set_option maxRecDepth 20000
set_option maxHeartbeats 2000000
attribute [local irreducible] PreK CondK CallK CallG CallX LoopK
attribute [local simp] avsEq avEq akind teq vkind vEq

theorem kids_num (n : Nat) (b : List Int) : (kidsO n b).length ≤ n := by
  unfold kidsO
  rw [List.length_map]
  have := List.length_filter_le (fun s => !b.contains s) (idsN n)
  rwa [ids_len] at this
theorem rorders_c (n : Nat) (h0 : 1 ≤ n) (hn : n ≤ 6) : CallP Try.prog 55 [iv n] (tabV (allO n)) := by
  refine C55 (by simp) ?_
  have hall : levO n n [[]] = allO n := by rw [lev_ord]; simp [allO]
  generalize allO n = R at hall
  simp [A55]
  refine LoopK.byF (ι := Bool × Nat × List (List Int)) (fun x => match x.1 with
    | false => ⟨[(4, iv 0), (3, .seq 1 [.seq 1 [] true] false), (0, iv n)], []⟩
    | true => ⟨[(4, iv x.2.1), (3, tabV x.2.2), (0, iv n)], []⟩) (fun x => n - x.2.1)
    (fun x => x.2.1 ≤ n ∧ x.2.2.length ≤ 6 ^ x.2.1 ∧ (∀ b ∈ x.2.2, b.length = x.2.1) ∧ levO n (n - x.2.1) x.2.2 = R ∧ (x.1 = false → x.2.1 = 0 ∧ x.2.2 = [[]])) (false, 0, [[]]) ⟨Nat.zero_le _, by simp, by simp, hall, fun _ => ⟨rfl, rfl⟩⟩ (by simp) ?_
  intro ⟨kd, i, out⟩ Q' ⟨hi, hol, hlen, hc, hkd⟩ hq he hr hfz
  dsimp only at hi hol hlen hc hkd
  have hstep : i < n → (out.flatMap (kidsO n)).length ≤ 6 ^ (i + 1) ∧ (∀ b ∈ out.flatMap (kidsO n), b.length = i + 1) ∧ levO n (n - (i + 1)) (out.flatMap (kidsO n)) = R := by
    intro h
    refine ⟨?_, fun b hb => ?_, ?_⟩
    · have h1 := flat_len (kidsO n) 6 out fun b _ => by have := kids_num n b; omega
      have h2 : out.length * 6 ≤ 6 ^ i * 6 := Nat.mul_le_mul_right 6 hol
      rw [Nat.pow_succ]
      omega
    · obtain ⟨c, hc1, hc2⟩ := List.mem_flatMap.1 hb
      obtain ⟨s, _, _, _, rfl⟩ := mem_kids.1 hc2
      have := hlen c hc1
      simp; omega
    · rw [← hc, show n - i = (n - (i + 1)) + 1 by omega, levO]
  have hpow : 6 ^ (i + 1) ≤ 6 ^ 7 := Nat.pow_le_pow_right (by omega) (by omega)
  have hpow2 : 6 ^ i ≤ 6 ^ 7 := Nat.pow_le_pow_right (by omega) (by omega)
  rw [show (6 : Nat) ^ 7 = 279936 by decide] at hpow hpow2
  cases kd with
  | false =>
    obtain ⟨rfl, rfl⟩ := hkd rfl
    try simp 
    refine CondK.intro (fun h1 => ?_) (fun h1 => ?_)
    · simp at h1
      replace h1 : 0 < n := by omega
      obtain ⟨hNXl, hNXn, hlv⟩ := hstep h1
      clear hstep
      have hNX : ([[]] : List (List Int)).flatMap (kidsO n) = (idsN n).map fun s => [s] := by
        simp only [List.flatMap_cons, List.flatMap_nil, List.append_nil, kidsO]
        rw [List.filter_eq_self.2 (by simp)]
        rfl
      rw [hNX] at hNXl hNXn hlv
      generalize hM : (idsN n).map (fun s => [s]) = NX at *
      repeat (refine PreK.intro (by first | omega | (intros; first | omega | (refine ⟨by omega, ?_⟩; simp_all; done) | (simp_all; done) | (simp_all; omega))) fun _ => ?_; (try simp ))
      refine LoopK.by (ι := Nat × Nat × List (List Int)) (fun x => ⟨[(6, iv x.1), (5, .sl 5 x.2.1 0 x.2.2.length), (4, iv 0), (3, .seq 1 [.seq 1 [] true] false), (0, iv n)], [(5, some ⟨1, x.2.2.map ints, x.2.1, false⟩)]⟩) (fun x => 1 - x.1)
        (fun x => x.1 ≤ 1 ∧ (x.1 = 0 → x.2.2 = []) ∧ (x.1 = 1 → x.2.2 = NX)) (0, 1, []) ⟨Nat.zero_le _, fun _ => rfl, fun h => by cases h⟩ (by simp) ?_
      intro ⟨j, v, acc⟩ Q2 ⟨hj, hj0, hj1⟩ hq2 he2 hr2
      dsimp only at hj hj0 hj1
      match j, hj with
      | 0, _ =>
        obtain rfl := hj0 rfl
        try simp 
        refine CondK.tt ?_
        try simp 
        repeat (refine PreK.intro (by first | omega | (intros; first | omega | (refine ⟨by omega, ?_⟩; simp_all; done) | (simp_all; done) | (simp_all; omega))) fun _ => ?_; (try simp ))
        refine LoopK.by (ι := Nat × Nat × List (List Int)) (fun x => ⟨[(7, iv x.1), (6, iv 0), (5, .sl 5 x.2.1 0 x.2.2.length), (4, iv 0), (3, .seq 1 [.seq 1 [] true] false), (0, iv n)], [(5, some ⟨1, x.2.2.map ints, x.2.1, false⟩)]⟩) (fun x => n - x.1)
          (fun x => x.1 ≤ n ∧ x.2.2.length = x.1 ∧ x.2.2 ++ ((idsN n).drop x.1).map (fun s => [s]) = NX) (0, v, []) ⟨Nat.zero_le _, rfl, by simpa using hM⟩ (by simp) ?_
        intro ⟨k, v2, ac2⟩ Q3 ⟨hk, hkl, hc3⟩ hq3 he3 hr3
        dsimp only at hk hkl hc3
        try simp 
        refine CondK.intro (fun h3 => ?_) (fun h3 => ?_)
        · simp at h3
          have hh := has1_c [] (k : Int) (by simp)
          rw [show ([] : List Int).contains (k : Int) = false from rfl] at hh
          rw [drop_cons (idsN n) k (by rw [ids_len]; exact h3), el_ids h3, List.map_cons] at hc3
          try simp 
          repeat (refine PreK.intro (by first | omega | (intros; first | omega | (refine ⟨by omega, ?_⟩; simp_all; done) | (simp_all; done) | (simp_all; omega))) fun _ => ?_; (try simp ))
          refine CallX.pure (by simpa using hh) (by simp) (by simp) ?_
          try simp 
          refine CondK.tt ?_
          try simp 
          try simp 
          repeat (refine PreK.intro (by first | omega | (intros; first | omega | (refine ⟨by omega, ?_⟩; simp_all; done) | (simp_all; done) | (simp_all; omega))) fun _ => ?_; (try simp ))
          exact hq3 (k + 1, v2 + 1, ac2 ++ [[(k : Int)]]) _ ⟨by dsimp only; omega, by simp; omega, by simpa using hc3⟩ (by dsimp only; omega) (by simp)
        · simp at h3
          rw [List.drop_eq_nil_of_le (by rw [ids_len]; omega), List.map_nil, List.append_nil] at hc3
          try simp 
          apply he3
          repeat (refine PreK.intro (by first | omega | (intros; first | omega | (refine ⟨by omega, ?_⟩; simp_all; done) | (simp_all; done) | (simp_all; omega))) fun _ => ?_; (try simp ))
          exact hq2 (1, v2, ac2) _ ⟨Nat.le_refl _, (fun h => by cases h), fun _ => hc3⟩ (by dsimp only; omega) (by simp)
      | 1, _ =>
        obtain rfl := hj1 rfl
        try simp 
        refine CondK.ff ?_
        try simp 
        try simp 
        apply he2
        repeat (refine PreK.intro (by first | omega | (intros; first | omega | (refine ⟨by omega, ?_⟩; simp_all; done) | (simp_all; done) | (simp_all; omega))) fun _ => ?_; (try simp ))
        refine hfz 5 ⟨1, acc.map ints, v, false⟩ _ (by simp) (by simp) ?_
        exact hq (true, 1, acc) _ ⟨by dsimp only; omega, hNXl, hNXn, hlv, fun h => by cases h⟩ (by dsimp only; omega) (by simp)
    · simp at h1
      omega
  | true =>
    try simp 
    refine CondK.intro (fun h1 => ?_) (fun h1 => ?_)
    · simp at h1
      obtain ⟨hNXl, hNXn, hlv⟩ := hstep h1
      generalize hNX : out.flatMap (kidsO n) = NX at *
      repeat (refine PreK.intro (by first | omega | (intros; first | omega | (refine ⟨by omega, ?_⟩; simp_all; done) | (simp_all; done) | (simp_all; omega))) fun _ => ?_; (try simp ))
      refine LoopK.by (ι := Nat × Nat × List (List Int)) (fun x => ⟨[(6, iv x.1), (5, .sl 5 x.2.1 0 x.2.2.length), (4, iv i), (3, tabV out), (0, iv n)], [(5, some ⟨1, x.2.2.map ints, x.2.1, false⟩)]⟩) (fun x => out.length - x.1)
        (fun x => x.1 ≤ out.length ∧ x.2.2 ++ (out.drop x.1).flatMap (kidsO n) = NX) (0, 1, []) ⟨Nat.zero_le _, by simpa using hNX⟩ (by simp) ?_
      intro ⟨j, v, acc⟩ Q2 ⟨hj, hc2⟩ hq2 he2 hr2
      dsimp only at hj hc2
      try simp 
      refine CondK.intro (fun h2 => ?_) (fun h2 => ?_)
      · simp at h2
        have hbl := hlen _ (el_mem_of out j h2)
        rw [drop_cons out j h2, List.flatMap_cons] at hc2
        generalize hrest : (out.drop (j + 1)).flatMap (kidsO n) = rest at hc2
        have hk0 : acc ++ (((((idsN n).drop 0).filter fun s => !(el out j).contains s).map fun s => el out j ++ [s]) ++ rest) = NX := by simpa [kidsO] using hc2
        try simp [h2]
        repeat (refine PreK.intro (by first | omega | (intros; first | omega | (refine ⟨by omega, ?_⟩; simp_all; done) | (simp_all; done) | (simp_all; omega))) fun _ => ?_; (try simp [h2]))
        refine LoopK.by (ι := Nat × Nat × List (List Int)) (fun x => ⟨[(7, iv x.1), (6, iv j), (5, .sl 5 x.2.1 0 x.2.2.length), (4, iv i), (3, tabV out), (0, iv n)], [(5, some ⟨1, x.2.2.map ints, x.2.1, false⟩)]⟩) (fun x => n - x.1)
          (fun x => x.1 ≤ n ∧ x.2.2 ++ (((((idsN n).drop x.1).filter fun s => !(el out j).contains s).map fun s => el out j ++ [s]) ++ rest) = NX) (0, v, acc) ⟨Nat.zero_le _, hk0⟩ (by simp) ?_
        intro ⟨k, v2, ac2⟩ Q3 ⟨hk, hc3⟩ hq3 he3 hr3
        dsimp only at hk hc3
        have hacl := congrArg List.length hc3
        simp only [List.length_append] at hacl
        try simp 
        refine CondK.intro (fun h3 => ?_) (fun h3 => ?_)
        · simp at h3
          have hh := has1_c (el out j) k (sbig (by omega))
          rw [drop_cons (idsN n) k (by rw [ids_len]; exact h3), el_ids h3, List.filter_cons] at hc3
          generalize hcb : (el out j).contains (k : Int) = cb at hh hc3
          try simp [h2]
          repeat (refine PreK.intro (by first | omega | (intros; first | omega | (refine ⟨by omega, ?_⟩; simp_all; done) | (simp_all; done) | (simp_all; omega))) fun _ => ?_; (try simp [h2]))
          try simp [h2]
          repeat' (first
            | (refine CallX.pure (hh) (by simp) (by simp) ?_; try simp [h2])
            | (refine CallK.intro (hh) (by simp) (by simp) ?_; try simp [h2])
            | (refine CallG.intro (fun _ => hh) (by simp) (by simp) ?_; try simp [h2])
            | ((with_reducible refine PreK.intro ?_ ?_); (next => (first | omega | (intros; first | omega | (refine ⟨by omega, ?_⟩; repeat (first | assumption | constructor)) | assumption))); intro _; try simp [h2])
            | fail)
          cases cb with
          | true =>
            simp only [Bool.not_true, Bool.false_eq_true, if_false] at hc3
            refine CondK.ff ?_
            try simp 
            repeat (refine PreK.intro (by first | omega | (intros; first | omega | (refine ⟨by omega, ?_⟩; simp_all; done) | (simp_all; done) | (simp_all; omega))) fun _ => ?_; (try simp ))
            exact hq3 (k + 1, v2, ac2) _ ⟨by dsimp only; omega, hc3⟩ (by dsimp only; omega) (by simp)
          | false =>
            simp only [Bool.not_false, if_true, List.map_cons, List.cons_append] at hc3
            refine CondK.tt ?_
            try simp 
            try simp [h2]
            repeat (refine PreK.intro (by first | omega | (intros; first | omega | (refine ⟨by omega, ?_⟩; simp_all; done) | (simp_all; done) | (simp_all; omega))) fun _ => ?_; (try simp [h2]))
            exact hq3 (k + 1, v2 + 1, ac2 ++ [el out j ++ [(k : Int)]]) _ ⟨by dsimp only; omega, by simpa using hc3⟩ (by dsimp only; omega) (by simp [take_map_one])
        · simp at h3
          rw [List.drop_eq_nil_of_le (by rw [ids_len]; omega), List.filter_nil, List.map_nil, List.nil_append] at hc3
          try simp 
          apply he3
          repeat (refine PreK.intro (by first | omega | (intros; first | omega | (refine ⟨by omega, ?_⟩; simp_all; done) | (simp_all; done) | (simp_all; omega))) fun _ => ?_; (try simp ))
          exact hq2 (j + 1, v2, ac2) _ ⟨by dsimp only; omega, by dsimp only; rw [hrest]; exact hc3⟩ (by dsimp only; omega) (by simp)
      · simp at h2
        rw [List.drop_eq_nil_of_le (by omega), List.flatMap_nil, List.append_nil] at hc2
        subst hc2
        try simp 
        apply he2
        repeat (refine PreK.intro (by first | omega | (intros; first | omega | (refine ⟨by omega, ?_⟩; simp_all; done) | (simp_all; done) | (simp_all; omega))) fun _ => ?_; (try simp ))
        refine hfz 5 ⟨1, acc.map ints, v, false⟩ _ (by simp) (by simp) ?_
        exact hq (true, i + 1, acc) _ ⟨by dsimp only; omega, hNXl, hNXn, hlv, fun h => by cases h⟩ (by dsimp only; omega) (by simp)
    · simp at h1
      have : i = n := by omega
      subst this
      simp only [Nat.sub_self, levO] at hc
      subst hc
      try simp 
      apply he
      repeat (refine PreK.intro (by first | omega | (intros; first | omega | (refine ⟨by omega, ?_⟩; simp_all; done) | (simp_all; done) | (simp_all; omega))) fun _ => ?_; (try simp ))
/-! ### the first order, and the best one -/
def OrderE (n : Int) (f : List (List Int)) : List Int × Bool × Int := if famErr n f ≠ 0 then ([], false, famErr n f) else ((OrderM n.toNat f).1, (OrderM n.toNat f).2, 0)
theorem allO_num (n : Nat) (hn : n ≤ 6) : (allO n).length ≤ 279936 := by
  have : ∀ (m : Nat) (b : List Int), (ordF n m b).length ≤ 6 ^ m := by
    intro m
    induction m with
    | zero => intro b; simp [ordF]
    | succ m ih =>
      intro b
      have h1 := flat_len (ordF n m) (6 ^ m) (kidsO n b) fun x _ => ih x
      have h2 := kids_num n b
      have h3 : (kidsO n b).length * 6 ^ m ≤ 6 * 6 ^ m := Nat.mul_le_mul_right _ (by omega)
      rw [ordF, Nat.pow_succ, Nat.mul_comm (6 ^ m) 6]
      omega
  have h1 := this n []
  have h2 : 6 ^ n ≤ 6 ^ 7 := Nat.pow_le_pow_right (by omega) (by omega)
  unfold allO
  rw [show (6 : Nat) ^ 7 = 279936 by decide] at h2
  omega
def firstF (f : List (List Int)) (L : List (List Int)) : List Int × Bool := match L.find? fun o => fitsM o f with
  | some o => (o, true)
  | none => ([], false)
theorem firstF_cons (f : List (List Int)) (o : List Int) (L : List (List Int)) : firstF f (o :: L) = if fitsM o f then (o, true) else firstF f L := by
  unfold firstF
  rw [List.find?_cons]
  cases fitsM o f <;> rfl
theorem rOrder_c (n : Int) (f : List (List Int)) (h : Sm f) : CallP Try.prog 32 [iv n, tabV f] (.tup [ints (OrderE n f).1, bv (OrderE n f).2.1, iv (OrderE n f).2.2]) := by
  refine C32 (by simp) ?_
  have hv := rValidateFamily_c n f h
  unfold OrderE
  by_cases h0 : famErr n f = 0
  · obtain ⟨k, rfl, hf⟩ := famErr_zero h0
    have hro := rorders_c k hf.lo hf.hi
    have hnum := allO_num k hf.hi
    have hok : ∀ o ∈ allO k, OrdOK k o := fun o ho => mem_allO.1 ho
    rw [h0] at hv ⊢
    rw [Int.toNat_natCast]
    rw [show OrderM k f = firstF f (allO k) from rfl]
    generalize allO k = L at *
    generalize hR : firstF f L = R
    simp [A32]
    try simp 
    repeat' (first
      | (refine CallX.pure (hv) (by simp) (by simp) ?_; try simp )
      | (refine CallK.intro (hv) (by simp) (by simp) ?_; try simp )
      | (refine CallG.intro (fun _ => hv) (by simp) (by simp) ?_; try simp )
      | ((with_reducible refine PreK.intro ?_ ?_); (next => (first | omega | (intros; first | omega | (refine ⟨by omega, ?_⟩; repeat (first | assumption | constructor)) | assumption))); intro _; try simp )
      | fail)
    refine CondK.ff ?_
    try simp 
    repeat (refine PreK.intro (by first | omega | (intros; first | omega | (refine ⟨by omega, ?_⟩; simp_all; done) | (simp_all; done) | (simp_all; omega))) fun _ => ?_; (try simp ))
    try simp 
    repeat' (first
      | (refine CallX.pure (hro) (by simp) (by simp) ?_; try simp )
      | (refine CallK.intro (hro) (by simp) (by simp) ?_; try simp )
      | (refine CallG.intro (fun _ => hro) (by simp) (by simp) ?_; try simp )
      | ((with_reducible refine PreK.intro ?_ ?_); (next => (first | omega | (intros; first | omega | (refine ⟨by omega, ?_⟩; repeat (first | assumption | constructor)) | assumption))); intro _; try simp )
      | fail)
    refine LoopK.by (ι := Nat) (fun i => ⟨[(9, iv i), (8, tabV L), (1, tabV f)], []⟩) (fun i => L.length - i) (fun i => i ≤ L.length ∧ firstF f (L.drop i) = R) 0 ⟨Nat.zero_le _, by simpa using hR⟩ (by simp) ?_
    intro i Q' ⟨hi, hc⟩ hq he hr
    try simp 
    refine CondK.intro (fun h1 => ?_) (fun h1 => ?_)
    · simp at h1
      have hfc := rfits_c f (el L i) k hf (hok _ (el_mem_of L i h1))
      rw [drop_cons L i h1, firstF_cons] at hc
      generalize fitsM (el L i) f = b at hfc hc
      try simp [h1]
      repeat (refine PreK.intro (by first | omega | (intros; first | omega | (refine ⟨by omega, ?_⟩; simp_all; done) | (simp_all; done) | (simp_all; omega))) fun _ => ?_; (try simp [h1]))
      try simp [h1]
      repeat' (first
        | (refine CallX.pure (hfc) (by simp) (by simp) ?_; try simp [h1])
        | (refine CallK.intro (hfc) (by simp) (by simp) ?_; try simp [h1])
        | (refine CallG.intro (fun _ => hfc) (by simp) (by simp) ?_; try simp [h1])
        | ((with_reducible refine PreK.intro ?_ ?_); (next => (first | omega | (intros; first | omega | (refine ⟨by omega, ?_⟩; repeat (first | assumption | constructor)) | assumption))); intro _; try simp [h1])
        | fail)
      cases b with
      | true =>
        simp only [if_true] at hc
        subst hc
        refine CondK.tt ?_
        try simp 
        try simp [h1]
        repeat (refine PreK.intro (by first | omega | (intros; first | omega | (refine ⟨by omega, ?_⟩; simp_all; done) | (simp_all; done) | (simp_all; omega))) fun _ => ?_; (try simp [h1]))
        apply hr
        try simp 
        repeat (refine PreK.intro (by first | omega | (intros; first | omega | (refine ⟨by omega, ?_⟩; simp_all; done) | (simp_all; done) | (simp_all; omega))) fun _ => ?_; (try simp ))
      | false =>
        simp only [Bool.false_eq_true, if_false] at hc
        refine CondK.ff ?_
        try simp 
        repeat (refine PreK.intro (by first | omega | (intros; first | omega | (refine ⟨by omega, ?_⟩; simp_all; done) | (simp_all; done) | (simp_all; omega))) fun _ => ?_; (try simp ))
        exact hq (i + 1) _ ⟨by omega, hc⟩ (by omega) (by simp)
    · simp at h1
      rw [List.drop_eq_nil_of_le (by omega)] at hc
      have hc : ([], false) = R := hc
      subst hc
      try simp 
      apply he
      repeat (refine PreK.intro (by first | omega | (intros; first | omega | (refine ⟨by omega, ?_⟩; simp_all; done) | (simp_all; done) | (simp_all; omega))) fun _ => ?_; (try simp ))
  · rw [if_pos h0]
    generalize famErr n f = e at *
    simp [A32]
    try simp 
    repeat' (first
      | (refine CallX.pure (hv) (by simp) (by simp) ?_; try simp )
      | (refine CallK.intro (hv) (by simp) (by simp) ?_; try simp )
      | (refine CallG.intro (fun _ => hv) (by simp) (by simp) ?_; try simp )
      | ((with_reducible refine PreK.intro ?_ ?_); (next => (first | omega | (intros; first | omega | (refine ⟨by omega, ?_⟩; repeat (first | assumption | constructor)) | assumption))); intro _; try simp )
      | fail)
    refine CondK.intro (fun h1 => ?_) (fun h1 => ?_)
    · repeat (refine PreK.intro (by first | omega | (intros; first | omega | (refine ⟨by omega, ?_⟩; simp_all; done) | (simp_all; done) | (simp_all; omega))) fun _ => ?_; (try simp ))
    · simp at h1
      exact absurd h1 h0
def FewE (n : Int) (f : List (List Int)) : Int × Bool × Int := if famErr n f ≠ 0 then (0, false, famErr n f) else (fewM f n.toNat, decide (0 < fewM f n.toNat), 0)
theorem rFewest_c (n : Int) (f : List (List Int)) (h : Sm f) : CallP Try.prog 25 [iv n, tabV f] (.tup [iv (FewE n f).1, bv (FewE n f).2.1, iv (FewE n f).2.2]) := by
  refine C25 (by simp) ?_
  have hv := rValidateFamily_c n f h
  unfold FewE
  by_cases h0 : famErr n f = 0
  · obtain ⟨k, rfl, hf⟩ := famErr_zero h0
    have hro := rorders_c k hf.lo hf.hi
    have hnum := allO_num k hf.hi
    have hok : ∀ o ∈ allO k, OrdOK k o := fun o ho => mem_allO.1 ho
    rw [h0] at hv ⊢
    rw [Int.toNat_natCast]
    unfold fewM
    generalize allO k = L at *
    generalize hR : fewF f 0 L = R
    simp [A25]
    try simp 
    repeat' (first
      | (refine CallX.pure (hv) (by simp) (by simp) ?_; try simp )
      | (refine CallK.intro (hv) (by simp) (by simp) ?_; try simp )
      | (refine CallG.intro (fun _ => hv) (by simp) (by simp) ?_; try simp )
      | ((with_reducible refine PreK.intro ?_ ?_); (next => (first | omega | (intros; first | omega | (refine ⟨by omega, ?_⟩; repeat (first | assumption | constructor)) | assumption))); intro _; try simp )
      | fail)
    refine CondK.ff ?_
    try simp 
    repeat (refine PreK.intro (by first | omega | (intros; first | omega | (refine ⟨by omega, ?_⟩; simp_all; done) | (simp_all; done) | (simp_all; omega))) fun _ => ?_; (try simp ))
    try simp 
    repeat' (first
      | (refine CallX.pure (hro) (by simp) (by simp) ?_; try simp )
      | (refine CallK.intro (hro) (by simp) (by simp) ?_; try simp )
      | (refine CallG.intro (fun _ => hro) (by simp) (by simp) ?_; try simp )
      | ((with_reducible refine PreK.intro ?_ ?_); (next => (first | omega | (intros; first | omega | (refine ⟨by omega, ?_⟩; repeat (first | assumption | constructor)) | assumption))); intro _; try simp )
      | fail)
    refine LoopK.by (ι := Nat × Int) (fun x => ⟨[(10, iv x.1), (9, tabV L), (8, iv x.2), (1, tabV f)], []⟩) (fun x => L.length - x.1) (fun x => x.1 ≤ L.length ∧ fewF f x.2 (L.drop x.1) = R) (0, 0) ⟨Nat.zero_le _, by simpa using hR⟩ (by simp) ?_
    intro ⟨i, b⟩ Q' ⟨hi, hc⟩ hq he hr
    dsimp only at hi hc
    try simp 
    refine CondK.intro (fun h1 => ?_) (fun h1 => ?_)
    · simp at h1
      have hoi := hok _ (el_mem_of L i h1)
      have hfc := rfits_c f (el L i) k hf hoi
      have hmc := rmarks_c f (el L i) k hf hoi
      rw [drop_cons L i h1, fewF] at hc
      generalize fitsM (el L i) f = ft at hfc hc
      generalize marksN (el L i) f = m at hmc hc
      try simp [h1]
      repeat (refine PreK.intro (by first | omega | (intros; first | omega | (refine ⟨by omega, ?_⟩; simp_all; done) | (simp_all; done) | (simp_all; omega))) fun _ => ?_; (try simp [h1]))
      try simp [h1]
      repeat' (first
        | (refine CallX.pure (hfc) (by simp) (by simp) ?_; try simp [h1])
        | (refine CallK.intro (hfc) (by simp) (by simp) ?_; try simp [h1])
        | (refine CallG.intro (fun _ => hfc) (by simp) (by simp) ?_; try simp [h1])
        | ((with_reducible refine PreK.intro ?_ ?_); (next => (first | omega | (intros; first | omega | (refine ⟨by omega, ?_⟩; repeat (first | assumption | constructor)) | assumption))); intro _; try simp [h1])
        | fail)
      cases ft with
      | false =>
        simp only [Bool.false_eq_true, if_false] at hc
        refine CondK.tt ?_
        try simp 
        repeat (refine PreK.intro (by first | omega | (intros; first | omega | (refine ⟨by omega, ?_⟩; simp_all; done) | (simp_all; done) | (simp_all; omega))) fun _ => ?_; (try simp ))
        exact hq (i + 1, b) _ ⟨by dsimp only; omega, hc⟩ (by dsimp only; omega) (by simp)
      | true =>
        simp only [if_true] at hc
        refine CondK.ff ?_
        try simp 
        try simp [h1]
        repeat (refine PreK.intro (by first | omega | (intros; first | omega | (refine ⟨by omega, ?_⟩; simp_all; done) | (simp_all; done) | (simp_all; omega))) fun _ => ?_; (try simp [h1]))
        try simp [h1]
        repeat' (first
          | (refine CallX.pure (hmc) (by simp) (by simp) ?_; try simp [h1])
          | (refine CallK.intro (hmc) (by simp) (by simp) ?_; try simp [h1])
          | (refine CallG.intro (fun _ => hmc) (by simp) (by simp) ?_; try simp [h1])
          | ((with_reducible refine PreK.intro ?_ ?_); (next => (first | omega | (intros; first | omega | (refine ⟨by omega, ?_⟩; repeat (first | assumption | constructor)) | assumption))); intro _; try simp [h1])
          | fail)
        by_cases h2 : b = 0
        · subst h2
          rw [if_pos (.inl rfl)] at hc
          try simp 
          repeat (refine PreK.intro (by first | omega | (intros; first | omega | (refine ⟨by omega, ?_⟩; simp_all; done) | (simp_all; done) | (simp_all; omega))) fun _ => ?_; (try simp ))
          refine CondK.tt ?_
          try simp 
          repeat (refine PreK.intro (by first | omega | (intros; first | omega | (refine ⟨by omega, ?_⟩; simp_all; done) | (simp_all; done) | (simp_all; omega))) fun _ => ?_; (try simp ))
          exact hq (i + 1, (m : Int)) _ ⟨by dsimp only; omega, hc⟩ (by dsimp only; omega) (by simp)
        · by_cases h3 : (m : Int) < b
          · rw [if_pos (.inr h3)] at hc
            try simp [h2, h3]
            repeat (refine PreK.intro (by first | omega | (intros; first | omega | (refine ⟨by omega, ?_⟩; simp_all; done) | (simp_all; done) | (simp_all; omega))) fun _ => ?_; (try simp [h2, h3]))
            refine CondK.tt ?_
            try simp 
            repeat (refine PreK.intro (by first | omega | (intros; first | omega | (refine ⟨by omega, ?_⟩; simp_all; done) | (simp_all; done) | (simp_all; omega))) fun _ => ?_; (try simp ))
            exact hq (i + 1, (m : Int)) _ ⟨by dsimp only; omega, hc⟩ (by dsimp only; omega) (by simp)
          · rw [if_neg (by omega)] at hc
            try simp [h2, h3]
            repeat (refine PreK.intro (by first | omega | (intros; first | omega | (refine ⟨by omega, ?_⟩; simp_all; done) | (simp_all; done) | (simp_all; omega))) fun _ => ?_; (try simp [h2, h3]))
            refine CondK.ff ?_
            try simp 
            repeat (refine PreK.intro (by first | omega | (intros; first | omega | (refine ⟨by omega, ?_⟩; simp_all; done) | (simp_all; done) | (simp_all; omega))) fun _ => ?_; (try simp ))
            exact hq (i + 1, b) _ ⟨by dsimp only; omega, hc⟩ (by dsimp only; omega) (by simp)
    · simp at h1
      rw [List.drop_eq_nil_of_le (by omega), fewF] at hc
      subst hc
      try simp 
      apply he
      repeat (refine PreK.intro (by first | omega | (intros; first | omega | (refine ⟨by omega, ?_⟩; simp_all; done) | (simp_all; done) | (simp_all; omega))) fun _ => ?_; (try simp ))
  · rw [if_pos h0]
    generalize famErr n f = e at *
    simp [A25]
    try simp 
    repeat' (first
      | (refine CallX.pure (hv) (by simp) (by simp) ?_; try simp )
      | (refine CallK.intro (hv) (by simp) (by simp) ?_; try simp )
      | (refine CallG.intro (fun _ => hv) (by simp) (by simp) ?_; try simp )
      | ((with_reducible refine PreK.intro ?_ ?_); (next => (first | omega | (intros; first | omega | (refine ⟨by omega, ?_⟩; repeat (first | assumption | constructor)) | assumption))); intro _; try simp )
      | fail)
    refine CondK.intro (fun h1 => ?_) (fun h1 => ?_)
    · repeat (refine PreK.intro (by first | omega | (intros; first | omega | (refine ⟨by omega, ?_⟩; simp_all; done) | (simp_all; done) | (simp_all; omega))) fun _ => ?_; (try simp ))
    · simp at h1
      exact absurd h1 h0
end Go.Proofs.Ytgfgkfkplidncaa
end

section
/- Contracts: the program's orders, marks and tables. -/
namespace Go.Proofs.Ytgfgkfkplidncaa
open Go.Abs Go
set_option maxRecDepth 20000
set_option maxHeartbeats 2000000
attribute [local irreducible] PreK CondK CallK CallG CallX LoopK
attribute [local simp] avsEq avEq akind teq vkind vEq

theorem callB_weak {P : Program} {f : FuncId} {as' : List AV} {m m' : List (Nat × Option Box)} {r : AV} (h : CallB P f (weakL as') m r m') : CallB P f as' m r m' :=
  ⟨h.1, fun w X μ vs h1 h2 h3 h4 h5 => h.2 w X μ vs h1 h2 h3 (by rw [weakL_length]; exact h4) fun i hi => by
    rw [weakL_length] at hi
    rw [weakL_get hi]
    exact (h5 i hi).weak⟩
theorem best_c (f : List (List Int)) (n : Nat) (hf : FamOK n f) : CallP Try.prog 54 [iv n, tabV f] (.tup [ints (bestF f n).1, ints (bestF f n).2, bv (decide ((bestF f n).1 ≠ []))]) := by
  refine C54 (by simp) ?_
  have hd := orders2_b f n hf n [] ([], []) (fun h => absurd rfl h) (by simp) (by simp) (by simp)
  have hI := bothI_run f (ordF n n []) ([], []) (fun h => absurd rfl h)
  unfold bestF allO
  generalize runT (stepB f) ([], []) (ordF n n []) = R at hd hI ⊢
  obtain ⟨⟨s1, s2⟩, r⟩ := R
  unfold bothI at hI
  dsimp only at hd hI ⊢
  simp only [bM, bP, slV_nil] at hd
  simp [A54]
  by_cases h1 : s1 = []
  · subst h1
    simp only [slV_nil] at hd
    rcases slV_cases s2 with e2 | e2
    · have : s2 = [] := by
        unfold slV at e2
        split at e2
        · assumption
        · cases e2
      subst this
      simp only [e2] at hd
      refine CallX.boxes [(3, 1, 101), (7, 1, 102), (8, 1, 103)] (by simp) (callB_weak (by simpa [weakL, weak] using hd)) ?_
      try simp 
      repeat (refine PreK.intro (by first | omega | (intros; first | omega | (refine ⟨by omega, ?_⟩; simp_all; done) | (simp_all; done) | (simp_all; omega))) fun _ => ?_; (try simp ))
    · simp only [e2] at hd
      refine CallX.boxes [(3, 1, 101), (7, 1, 102), (8, 1, 103)] (by simp) (callB_weak (by simpa [weakL, weak] using hd)) ?_
      try simp 
      repeat (refine PreK.intro (by first | omega | (intros; first | omega | (refine ⟨by omega, ?_⟩; simp_all; done) | (simp_all; done) | (simp_all; omega))) fun _ => ?_; (try simp ))
  · simp only [slV_ne h1, slV_ne (hI h1)] at hd
    refine CallX.boxes [(3, 1, 101), (7, 1, 102), (8, 1, 103)] (by simp) (callB_weak (by simpa [weakL, weak] using hd)) ?_
    try simp [h1]
    repeat (refine PreK.intro (by first | omega | (intros; first | omega | (refine ⟨by omega, ?_⟩; simp_all; done) | (simp_all; done) | (simp_all; omega))) fun _ => ?_; (try simp [h1]))
theorem Order_c (n : Int) (f : List (List Int)) (hs : Sm f) : CallP Try.prog 31 [iv n, tabV f] (.tup [ints (OrderE n f).1, bv (OrderE n f).2.1, iv (OrderE n f).2.2]) := by
  refine C31 (by simp) ?_
  have hv := ValidateFamily_c n f hs
  unfold OrderE
  by_cases h0 : famErr n f = 0
  · obtain ⟨k, rfl, hf⟩ := famErr_zero h0
    rw [if_neg (by simpa using h0)]
    rw [h0] at hv
    have hd := orders1_b f k hf k [] [] trivial (by simp) (by simp) (by simp)
    rw [Int.toNat_natCast, order_spec hf.lo f]
    unfold allO
    generalize runT (stepO f) [] (ordF k k []) = R at hd ⊢
    obtain ⟨s1, r⟩ := R
    dsimp only at hd ⊢
    simp only [oM, oP, slV_nil] at hd
    simp [A31]
    try simp 
    repeat' (first
      | (refine CallX.pure (hv) (by simp) (by simp) ?_; try simp )
      | (refine CallK.intro (hv) (by simp) (by simp) ?_; try simp )
      | (refine CallG.intro (fun _ => hv) (by simp) (by simp) ?_; try simp )
      | ((with_reducible refine PreK.intro ?_ ?_); (next => (first | omega | (intros; first | omega | (refine ⟨by omega, ?_⟩; repeat (first | assumption | constructor)) | assumption))); intro _; try simp )
      | fail)
    refine CondK.ff ?_
    try simp 
    repeat (refine PreK.intro (by first | omega | (intros; first | omega | (refine ⟨by omega, ?_⟩; simp_all; done) | (simp_all; done) | (simp_all; omega))) fun _ => ?_; (try simp ))
    by_cases h1 : s1 = []
    · subst h1
      simp only [slV_nil] at hd
      refine CallX.boxes [(3, 1, 101), (8, 1, 102)] (by simp) (callB_weak (by simpa [weakL, weak] using hd)) ?_
      try simp 
      repeat (refine PreK.intro (by first | omega | (intros; first | omega | (refine ⟨by omega, ?_⟩; simp_all; done) | (simp_all; done) | (simp_all; omega))) fun _ => ?_; (try simp ))
    · simp only [slV_ne h1] at hd
      refine CallX.boxes [(3, 1, 101), (8, 1, 102)] (by simp) (callB_weak (by simpa [weakL, weak] using hd)) ?_
      try simp [h1]
      repeat (refine PreK.intro (by first | omega | (intros; first | omega | (refine ⟨by omega, ?_⟩; simp_all; done) | (simp_all; done) | (simp_all; omega))) fun _ => ?_; (try simp [h1]))
  · rw [if_pos h0]
    generalize famErr n f = e at *
    simp [A31]
    try simp 
    repeat' (first
      | (refine CallX.pure (hv) (by simp) (by simp) ?_; try simp )
      | (refine CallK.intro (hv) (by simp) (by simp) ?_; try simp )
      | (refine CallG.intro (fun _ => hv) (by simp) (by simp) ?_; try simp )
      | ((with_reducible refine PreK.intro ?_ ?_); (next => (first | omega | (intros; first | omega | (refine ⟨by omega, ?_⟩; repeat (first | assumption | constructor)) | assumption))); intro _; try simp )
      | fail)
    refine CondK.intro (fun h1 => ?_) (fun h1 => ?_)
    · repeat (refine PreK.intro (by first | omega | (intros; first | omega | (refine ⟨by omega, ?_⟩; simp_all; done) | (simp_all; done) | (simp_all; omega))) fun _ => ?_; (try simp ))
    · simp at h1
      exact absurd h1 h0
theorem Fewest_c (n : Int) (f : List (List Int)) (hs : Sm f) : CallP Try.prog 24 [iv n, tabV f] (.tup [iv (FewE n f).1, bv (FewE n f).2.1, iv (FewE n f).2.2]) := by
  refine C24 (by simp) ?_
  have hv := ValidateFamily_c n f hs
  unfold FewE
  by_cases h0 : famErr n f = 0
  · obtain ⟨k, rfl, hf⟩ := famErr_zero h0
    have hb := best_c f k hf
    have hok := best_ok hf.lo f
    have hnn := (few_le f (allO k) 0 (Int.le_refl 0)).1
    rw [if_neg (by simpa using h0)]
    rw [h0] at hv
    rw [Int.toNat_natCast]
    rw [show fewF f 0 (allO k) = fewM f k from rfl] at hnn
    generalize fewM f k = m at *
    generalize bestF f k = B at *
    obtain ⟨o, l⟩ := B
    obtain ⟨b1, b2, _⟩ := hok
    dsimp only at hb b1 b2
    subst b1
    have hdec : decide (o ≠ []) = decide (0 < (l.length : Int)) := by
      rw [Bool.eq_iff_iff]
      simp only [decide_eq_true_eq, ne_eq, b2]
      omega
    rw [hdec] at hb
    simp [A24]
    try simp 
    repeat' (first
      | (refine CallX.pure (hv) (by simp) (by simp) ?_; try simp )
      | (refine CallK.intro (hv) (by simp) (by simp) ?_; try simp )
      | (refine CallG.intro (fun _ => hv) (by simp) (by simp) ?_; try simp )
      | ((with_reducible refine PreK.intro ?_ ?_); (next => (first | omega | (intros; first | omega | (refine ⟨by omega, ?_⟩; repeat (first | assumption | constructor)) | assumption))); intro _; try simp )
      | fail)
    refine CondK.ff ?_
    try simp 
    try simp 
    repeat' (first
      | (refine CallX.pure (hb) (by simp) (by simp) ?_; try simp )
      | (refine CallK.intro (hb) (by simp) (by simp) ?_; try simp )
      | (refine CallG.intro (fun _ => hb) (by simp) (by simp) ?_; try simp )
      | ((with_reducible refine PreK.intro ?_ ?_); (next => (first | omega | (intros; first | omega | (refine ⟨by omega, ?_⟩; repeat (first | assumption | constructor)) | assumption))); intro _; try simp )
      | fail)
    repeat (refine PreK.intro (by first | omega | (intros; first | omega | (refine ⟨by omega, ?_⟩; simp_all; done) | (simp_all; done) | (simp_all; omega))) fun _ => ?_; (try simp ))
  · rw [if_pos h0]
    generalize famErr n f = e at *
    simp [A24]
    try simp 
    repeat' (first
      | (refine CallX.pure (hv) (by simp) (by simp) ?_; try simp )
      | (refine CallK.intro (hv) (by simp) (by simp) ?_; try simp )
      | (refine CallG.intro (fun _ => hv) (by simp) (by simp) ?_; try simp )
      | ((with_reducible refine PreK.intro ?_ ?_); (next => (first | omega | (intros; first | omega | (refine ⟨by omega, ?_⟩; repeat (first | assumption | constructor)) | assumption))); intro _; try simp )
      | fail)
    refine CondK.intro (fun h1 => ?_) (fun h1 => ?_)
    · repeat (refine PreK.intro (by first | omega | (intros; first | omega | (refine ⟨by omega, ?_⟩; simp_all; done) | (simp_all; done) | (simp_all; omega))) fun _ => ?_; (try simp ))
    · simp at h1
      exact absurd h1 h0
/-! ### the program has the classes that the document gives -/
theorem classes_srt {t : Tab} (h : TabOK t) : classesM t = insA [] ((namesM t).map fun n => srtM (segM t n.1 n.2.toNat)) := by
  have h1 : setsM t = (namesM t).map fun n => srtM (segM t n.1 n.2.toNat) := by
    unfold setsM
    refine List.map_congr_left fun x _ => ?_
    exact srtM_eq (seg_nd h _ _) fun y hy => seg_val h hy
  rw [← h1]
  exact uniq_insA fun z => Iff.rfl
theorem known_c : CallP Try.prog 10 [] (bv true) := by
  refine C10 (by simp) ?_
  have s1 : Sm [[0, 1], [2]] := ⟨by simp, by intro r hr; simp at hr; rcases hr with rfl | rfl <;> simp⟩
  have s2 : Sm [[0, 1], [1, 2], [0, 2]] := ⟨by simp, by intro r hr; simp at hr; rcases hr with rfl | rfl | rfl <;> simp⟩
  have hC := Classes_c [[0, 1], [2]] s1
  have hO := Order_c 3 [[0, 1], [1, 2], [0, 2]] s2
  have t0 : tabErr [[0, 1], [2]] = 0 := by decide +kernel
  have e1 : ClassesE [[0, 1], [2]] = ([[0, 1], [0, 1, 2], [1], [1, 2], [2]], 0) := by
    unfold ClassesE
    rw [if_neg (by simpa using t0), classes_srt (tabErr_zero.1 t0)]
    decide +kernel
  have e2 : OrderE 3 [[0, 1], [1, 2], [0, 2]] = ([], false, 0) := by decide +kernel
  rw [e1] at hC
  rw [e2] at hO
  have h2 := sameLists_c [[0, 1], [0, 1, 2], [1], [1, 2], [2]] [[0, 1], [0, 1, 2], [1], [1, 2], [2]] (by simp [big]) (by simp [big])
  simp [A10]
  simp at hC hO h2
  refine CallX.pure (CallP.weak (by simpa [weakL, weak] using hC)) (by simp) (by simp) ?_
  try simp 
  refine CallX.pure (CallP.weak (by simpa [weakL, weak] using hO)) (by simp) (by simp) ?_
  try simp 
  repeat (refine PreK.intro (by first | omega | (intros; first | omega | (refine ⟨by omega, ?_⟩; simp_all; done) | (simp_all; done) | (simp_all; omega))) fun _ => ?_; (try simp ))
  refine CallG.intro (fun _ => CallP.weak (by simpa [weakL, weak] using h2)) (by simp) (by simp) ?_
  try simp 
  repeat (refine PreK.intro (by first | omega | (intros; first | omega | (refine ⟨by omega, ?_⟩; simp_all; done) | (simp_all; done) | (simp_all; omega))) fun _ => ?_; (try simp ))
end Go.Proofs.Ytgfgkfkplidncaa
end

section
/- Contracts: the statements SoundTables, SoundFits, SoundOrders, SoundFewest, SoundNames. -/
namespace Go.Proofs.Ytgfgkfkplidncaa
open Go.Abs Go
set_option maxRecDepth 20000
set_option maxHeartbeats 2000000
attribute [local irreducible] PreK CondK CallK CallG CallX LoopK
attribute [local simp] avsEq avEq akind teq vkind vEq

theorem sounds_len {t : Tab} (h : Sm t) : (SoundsE t).1.length ≤ 5000 := by
  unfold SoundsE
  have := flat_le t h.row
  have := h.num
  split
  · simp
  · dsimp only; omega
theorem lawSoundTables_c (t : List (List Int)) (x : Int) (hb : t.length ≤ big) : CallP Try.prog 4 [tabV t, iv x] (bv true) := by
  refine C4 (by simp) ?_
  have hlg := Long_c t hb
  simp [A4]
  try simp 
  repeat' (first
    | (refine CallX.pure (hlg) (by simp) (by simp) ?_; try simp )
    | (refine CallK.intro (hlg) (by simp) (by simp) ?_; try simp )
    | (refine CallG.intro (fun _ => hlg) (by simp) (by simp) ?_; try simp )
    | ((with_reducible refine PreK.intro ?_ ?_); (next => (first | omega | (intros; first | omega | (refine ⟨by omega, ?_⟩; repeat (first | assumption | constructor)) | assumption))); intro _; try simp )
    | fail)
  cases hL : longT t with
  | true =>
    refine CondK.tt ?_
    try simp 
    try simp 
    repeat' (first
      | (refine CallX.pure (known_c) (by simp) (by simp) ?_; try simp )
      | (refine CallK.intro (known_c) (by simp) (by simp) ?_; try simp )
      | (refine CallG.intro (fun _ => known_c) (by simp) (by simp) ?_; try simp )
      | ((with_reducible refine PreK.intro ?_ ?_); (next => (first | omega | (intros; first | omega | (refine ⟨by omega, ?_⟩; repeat (first | assumption | constructor)) | assumption))); intro _; try simp )
      | fail)
  | false =>
    refine CondK.ff ?_
    try simp 
    have hs := longT_small hL
    have c1 := Sounds_c t hs
    have c2 := rSounds_c t hs
    have c3 := Row_c t x hs
    have c4 := rRow_c t x hs
    have c5 := Validate_c t hs
    have c6 := rValidate_c t hs
    have hl := sounds_len hs
    generalize SoundsE t = S at *
    generalize RowE t x = R at *
    generalize tabErr t = e at *
    obtain ⟨L, e1⟩ := S
    obtain ⟨r, is, e2⟩ := R
    dsimp only at *
    have c7 := same1_c L L (by simp only [big]; omega)
    try simp 
    repeat' (first
      | (refine CallX.pure (c1) (by simp) (by simp) ?_; try simp )
      | (refine CallK.intro (c1) (by simp) (by simp) ?_; try simp )
      | (refine CallG.intro (fun _ => c1) (by simp) (by simp) ?_; try simp )
      | (refine CallX.pure (c2) (by simp) (by simp) ?_; try simp )
      | (refine CallK.intro (c2) (by simp) (by simp) ?_; try simp )
      | (refine CallG.intro (fun _ => c2) (by simp) (by simp) ?_; try simp )
      | (refine CallX.pure (c3) (by simp) (by simp) ?_; try simp )
      | (refine CallK.intro (c3) (by simp) (by simp) ?_; try simp )
      | (refine CallG.intro (fun _ => c3) (by simp) (by simp) ?_; try simp )
      | (refine CallX.pure (c4) (by simp) (by simp) ?_; try simp )
      | (refine CallK.intro (c4) (by simp) (by simp) ?_; try simp )
      | (refine CallG.intro (fun _ => c4) (by simp) (by simp) ?_; try simp )
      | (refine CallX.pure (c5) (by simp) (by simp) ?_; try simp )
      | (refine CallK.intro (c5) (by simp) (by simp) ?_; try simp )
      | (refine CallG.intro (fun _ => c5) (by simp) (by simp) ?_; try simp )
      | (refine CallX.pure (c6) (by simp) (by simp) ?_; try simp )
      | (refine CallK.intro (c6) (by simp) (by simp) ?_; try simp )
      | (refine CallG.intro (fun _ => c6) (by simp) (by simp) ?_; try simp )
      | (refine CallX.pure (c7) (by simp) (by simp) ?_; try simp )
      | (refine CallK.intro (c7) (by simp) (by simp) ?_; try simp )
      | (refine CallG.intro (fun _ => c7) (by simp) (by simp) ?_; try simp )
      | ((with_reducible refine PreK.intro ?_ ?_); (next => (first | omega | (intros; first | omega | (refine ⟨by omega, ?_⟩; repeat (first | assumption | constructor)) | assumption))); intro _; try simp )
      | fail)
    try simp 
    repeat' (first
      | (refine CallX.pure (c7) (by simp) (by simp) ?_; try simp )
      | (refine CallK.intro (c7) (by simp) (by simp) ?_; try simp )
      | (refine CallG.intro (fun _ => c7) (by simp) (by simp) ?_; try simp )
      | (refine CallX.pure (known_c) (by simp) (by simp) ?_; try simp )
      | (refine CallK.intro (known_c) (by simp) (by simp) ?_; try simp )
      | (refine CallG.intro (fun _ => known_c) (by simp) (by simp) ?_; try simp )
      | ((with_reducible refine PreK.intro ?_ ?_); (next => (first | omega | (intros; first | omega | (refine ⟨by omega, ?_⟩; repeat (first | assumption | constructor)) | assumption))); intro _; try simp )
      | fail)
theorem lawSoundFits_c (n : Int) (f : List (List Int)) (o : List Int) (hb : f.length ≤ big) (ho : o.length ≤ big) : CallP Try.prog 6 [iv n, tabV f, ints o] (bv true) := by
  refine C6 (by simp) ?_
  have hlg := Long_c f hb
  have hlo := large_c o
  simp [A6]
  try simp 
  repeat' (first
    | (refine CallX.pure (hlg) (by simp) (by simp) ?_; try simp )
    | (refine CallK.intro (hlg) (by simp) (by simp) ?_; try simp )
    | (refine CallG.intro (fun _ => hlg) (by simp) (by simp) ?_; try simp )
    | ((with_reducible refine PreK.intro ?_ ?_); (next => (first | omega | (intros; first | omega | (refine ⟨by omega, ?_⟩; repeat (first | assumption | constructor)) | assumption))); intro _; try simp )
    | fail)
  cases hL : longT f with
  | true =>
    try simp 
    repeat (refine PreK.intro (by first | omega | (intros; first | omega | (refine ⟨by omega, ?_⟩; simp_all; done) | (simp_all; done) | (simp_all; omega))) fun _ => ?_; (try simp ))
    refine CallG.intro (r := bv true) (fun hh => by cases hh) (by simp) (by simp) ?_
    try simp 
    try simp 
    repeat (refine PreK.intro (by first | omega | (intros; first | omega | (refine ⟨by omega, ?_⟩; simp_all; done) | (simp_all; done) | (simp_all; omega))) fun _ => ?_; (try simp ))
    refine CondK.tt ?_
    try simp 
    try simp 
    repeat' (first
      | (refine CallX.pure (known_c) (by simp) (by simp) ?_; try simp )
      | (refine CallK.intro (known_c) (by simp) (by simp) ?_; try simp )
      | (refine CallG.intro (fun _ => known_c) (by simp) (by simp) ?_; try simp )
      | ((with_reducible refine PreK.intro ?_ ?_); (next => (first | omega | (intros; first | omega | (refine ⟨by omega, ?_⟩; repeat (first | assumption | constructor)) | assumption))); intro _; try simp )
      | fail)
  | false =>
    try simp 
    repeat (refine PreK.intro (by first | omega | (intros; first | omega | (refine ⟨by omega, ?_⟩; simp_all; done) | (simp_all; done) | (simp_all; omega))) fun _ => ?_; (try simp ))
    try simp 
    repeat' (first
      | (refine CallX.pure (hlo) (by simp) (by simp) ?_; try simp )
      | (refine CallK.intro (hlo) (by simp) (by simp) ?_; try simp )
      | (refine CallG.intro (fun _ => hlo) (by simp) (by simp) ?_; try simp )
      | ((with_reducible refine PreK.intro ?_ ?_); (next => (first | omega | (intros; first | omega | (refine ⟨by omega, ?_⟩; repeat (first | assumption | constructor)) | assumption))); intro _; try simp )
      | fail)
    by_cases h100 : 100 < o.length
    · try simp [h100]
      repeat (refine PreK.intro (by first | omega | (intros; first | omega | (refine ⟨by omega, ?_⟩; simp_all; done) | (simp_all; done) | (simp_all; omega))) fun _ => ?_; (try simp [h100]))
      refine CondK.tt ?_
      try simp 
      try simp 
      repeat' (first
        | (refine CallX.pure (known_c) (by simp) (by simp) ?_; try simp )
        | (refine CallK.intro (known_c) (by simp) (by simp) ?_; try simp )
        | (refine CallG.intro (fun _ => known_c) (by simp) (by simp) ?_; try simp )
        | ((with_reducible refine PreK.intro ?_ ?_); (next => (first | omega | (intros; first | omega | (refine ⟨by omega, ?_⟩; repeat (first | assumption | constructor)) | assumption))); intro _; try simp )
        | fail)
    · try simp [h100]
      repeat (refine PreK.intro (by first | omega | (intros; first | omega | (refine ⟨by omega, ?_⟩; simp_all; done) | (simp_all; done) | (simp_all; omega))) fun _ => ?_; (try simp [h100]))
      refine CondK.ff ?_
      try simp 
      have hs := longT_small hL
      have c1 := Fits_c n f o hs (by omega)
      have c2 := rFits_c n f o hs (by omega)
      have c5 := ValidateFamily_c n f hs
      have c6 := rValidateFamily_c n f hs
      generalize FitsE n f o = R at *
      generalize famErr n f = e at *
      obtain ⟨is, e2⟩ := R
      dsimp only at *
      try simp 
      repeat' (first
        | (refine CallX.pure (c1) (by simp) (by simp) ?_; try simp )
        | (refine CallK.intro (c1) (by simp) (by simp) ?_; try simp )
        | (refine CallG.intro (fun _ => c1) (by simp) (by simp) ?_; try simp )
        | (refine CallX.pure (c2) (by simp) (by simp) ?_; try simp )
        | (refine CallK.intro (c2) (by simp) (by simp) ?_; try simp )
        | (refine CallG.intro (fun _ => c2) (by simp) (by simp) ?_; try simp )
        | (refine CallX.pure (c5) (by simp) (by simp) ?_; try simp )
        | (refine CallK.intro (c5) (by simp) (by simp) ?_; try simp )
        | (refine CallG.intro (fun _ => c5) (by simp) (by simp) ?_; try simp )
        | (refine CallX.pure (c6) (by simp) (by simp) ?_; try simp )
        | (refine CallK.intro (c6) (by simp) (by simp) ?_; try simp )
        | (refine CallG.intro (fun _ => c6) (by simp) (by simp) ?_; try simp )
        | ((with_reducible refine PreK.intro ?_ ?_); (next => (first | omega | (intros; first | omega | (refine ⟨by omega, ?_⟩; repeat (first | assumption | constructor)) | assumption))); intro _; try simp )
        | fail)
      try simp 
      repeat' (first
        | (refine CallX.pure (known_c) (by simp) (by simp) ?_; try simp )
        | (refine CallK.intro (known_c) (by simp) (by simp) ?_; try simp )
        | (refine CallG.intro (fun _ => known_c) (by simp) (by simp) ?_; try simp )
        | ((with_reducible refine PreK.intro ?_ ?_); (next => (first | omega | (intros; first | omega | (refine ⟨by omega, ?_⟩; repeat (first | assumption | constructor)) | assumption))); intro _; try simp )
        | fail)
theorem order_law {n : Int} {f : List (List Int)} (h : (OrderE n f).2.1 = true) : FitsE n f (OrderE n f).1 = (true, 0) := by
  unfold OrderE at h ⊢
  split at h
  · cases h
  · rename_i h0
    rw [if_neg h0]
    obtain ⟨k, rfl, hf⟩ := famErr_zero (by simpa using h0)
    dsimp only at h ⊢
    rw [Int.toNat_natCast] at h ⊢
    obtain ⟨h1, h2⟩ := order_fits h
    have h3 : ordErr k f (OrderM k f).1 = 0 := by
      unfold ordErr
      rw [if_neg h0, if_pos (isOrd_iff.2 h1)]
    unfold FitsE
    rw [if_neg (by simpa using h3), h2]
theorem order_len (n : Int) (f : List (List Int)) : (OrderE n f).1.length ≤ 6 := by
  unfold OrderE
  split
  · simp
  · rename_i h0
    obtain ⟨k, rfl, hf⟩ := famErr_zero (by simpa using h0)
    dsimp only
    rw [Int.toNat_natCast]
    cases hb : (OrderM k f).2 with
    | true =>
      have := (order_fits hb).1.len
      have := hf.hi
      omega
    | false =>
      unfold OrderM at hb ⊢
      split at hb
      · cases hb
      · simp
theorem lawSoundOrders_c (n : Int) (f : List (List Int)) (hb : f.length ≤ big) : CallP Try.prog 7 [iv n, tabV f] (bv true) := by
  refine C7 (by simp) ?_
  have hlg := Long_c f hb
  simp [A7]
  try simp 
  repeat' (first
    | (refine CallX.pure (hlg) (by simp) (by simp) ?_; try simp )
    | (refine CallK.intro (hlg) (by simp) (by simp) ?_; try simp )
    | (refine CallG.intro (fun _ => hlg) (by simp) (by simp) ?_; try simp )
    | ((with_reducible refine PreK.intro ?_ ?_); (next => (first | omega | (intros; first | omega | (refine ⟨by omega, ?_⟩; repeat (first | assumption | constructor)) | assumption))); intro _; try simp )
    | fail)
  cases hL : longT f with
  | true =>
    refine CondK.tt ?_
    try simp 
    try simp 
    repeat' (first
      | (refine CallX.pure (known_c) (by simp) (by simp) ?_; try simp )
      | (refine CallK.intro (known_c) (by simp) (by simp) ?_; try simp )
      | (refine CallG.intro (fun _ => known_c) (by simp) (by simp) ?_; try simp )
      | ((with_reducible refine PreK.intro ?_ ?_); (next => (first | omega | (intros; first | omega | (refine ⟨by omega, ?_⟩; repeat (first | assumption | constructor)) | assumption))); intro _; try simp )
      | fail)
  | false =>
    refine CondK.ff ?_
    try simp 
    have hs := longT_small hL
    have c1 := Order_c n f hs
    have c2 := rOrder_c n f hs
    have hol := order_len n f
    have hlaw := order_law (n := n) (f := f)
    have c3 := Fits_c n f (OrderE n f).1 hs (by omega)
    generalize OrderE n f = R at *
    obtain ⟨o, is, e⟩ := R
    dsimp only at *
    have c7 := same1_c o o (by simp only [big]; omega)
    try simp 
    repeat' (first
      | (refine CallX.pure (c1) (by simp) (by simp) ?_; try simp )
      | (refine CallK.intro (c1) (by simp) (by simp) ?_; try simp )
      | (refine CallG.intro (fun _ => c1) (by simp) (by simp) ?_; try simp )
      | (refine CallX.pure (c2) (by simp) (by simp) ?_; try simp )
      | (refine CallK.intro (c2) (by simp) (by simp) ?_; try simp )
      | (refine CallG.intro (fun _ => c2) (by simp) (by simp) ?_; try simp )
      | ((with_reducible refine PreK.intro ?_ ?_); (next => (first | omega | (intros; first | omega | (refine ⟨by omega, ?_⟩; repeat (first | assumption | constructor)) | assumption))); intro _; try simp )
      | fail)
    try simp 
    repeat' (first
      | (refine CallX.pure (c7) (by simp) (by simp) ?_; try simp )
      | (refine CallK.intro (c7) (by simp) (by simp) ?_; try simp )
      | (refine CallG.intro (fun _ => c7) (by simp) (by simp) ?_; try simp )
      | ((with_reducible refine PreK.intro ?_ ?_); (next => (first | omega | (intros; first | omega | (refine ⟨by omega, ?_⟩; repeat (first | assumption | constructor)) | assumption))); intro _; try simp )
      | fail)
    refine CondK.ff ?_
    try simp 
    cases is with
    | true =>
      rw [hlaw rfl] at c3
      try simp 
      repeat' (first
        | (refine CallX.pure (c3) (by simp) (by simp) ?_; try simp )
        | (refine CallK.intro (c3) (by simp) (by simp) ?_; try simp )
        | (refine CallG.intro (fun _ => c3) (by simp) (by simp) ?_; try simp )
        | (refine CallX.pure (known_c) (by simp) (by simp) ?_; try simp )
        | (refine CallK.intro (known_c) (by simp) (by simp) ?_; try simp )
        | (refine CallG.intro (fun _ => known_c) (by simp) (by simp) ?_; try simp )
        | ((with_reducible refine PreK.intro ?_ ?_); (next => (first | omega | (intros; first | omega | (refine ⟨by omega, ?_⟩; repeat (first | assumption | constructor)) | assumption))); intro _; try simp )
        | fail)
    | false =>
      generalize FitsE n f o = F at c3
      obtain ⟨ft, e2⟩ := F
      try simp 
      repeat' (first
        | (refine CallX.pure (c3) (by simp) (by simp) ?_; try simp )
        | (refine CallK.intro (c3) (by simp) (by simp) ?_; try simp )
        | (refine CallG.intro (fun _ => c3) (by simp) (by simp) ?_; try simp )
        | (refine CallX.pure (known_c) (by simp) (by simp) ?_; try simp )
        | (refine CallK.intro (known_c) (by simp) (by simp) ?_; try simp )
        | (refine CallG.intro (fun _ => known_c) (by simp) (by simp) ?_; try simp )
        | ((with_reducible refine PreK.intro ?_ ?_); (next => (first | omega | (intros; first | omega | (refine ⟨by omega, ?_⟩; repeat (first | assumption | constructor)) | assumption))); intro _; try simp )
        | fail)
theorem lawSoundFewest_c (n : Int) (f : List (List Int)) (hb : f.length ≤ big) : CallP Try.prog 5 [iv n, tabV f] (bv true) := by
  refine C5 (by simp) ?_
  have hlg := Long_c f hb
  simp [A5]
  try simp 
  repeat' (first
    | (refine CallX.pure (hlg) (by simp) (by simp) ?_; try simp )
    | (refine CallK.intro (hlg) (by simp) (by simp) ?_; try simp )
    | (refine CallG.intro (fun _ => hlg) (by simp) (by simp) ?_; try simp )
    | ((with_reducible refine PreK.intro ?_ ?_); (next => (first | omega | (intros; first | omega | (refine ⟨by omega, ?_⟩; repeat (first | assumption | constructor)) | assumption))); intro _; try simp )
    | fail)
  cases hL : longT f with
  | true =>
    refine CondK.tt ?_
    try simp 
    try simp 
    repeat' (first
      | (refine CallX.pure (known_c) (by simp) (by simp) ?_; try simp )
      | (refine CallK.intro (known_c) (by simp) (by simp) ?_; try simp )
      | (refine CallG.intro (fun _ => known_c) (by simp) (by simp) ?_; try simp )
      | ((with_reducible refine PreK.intro ?_ ?_); (next => (first | omega | (intros; first | omega | (refine ⟨by omega, ?_⟩; repeat (first | assumption | constructor)) | assumption))); intro _; try simp )
      | fail)
  | false =>
    refine CondK.ff ?_
    try simp 
    have hs := longT_small hL
    have c1 := Fewest_c n f hs
    have c2 := rFewest_c n f hs
    generalize FewE n f = R at *
    obtain ⟨m, is, e⟩ := R
    dsimp only at *
    try simp 
    repeat' (first
      | (refine CallX.pure (c1) (by simp) (by simp) ?_; try simp )
      | (refine CallK.intro (c1) (by simp) (by simp) ?_; try simp )
      | (refine CallG.intro (fun _ => c1) (by simp) (by simp) ?_; try simp )
      | (refine CallX.pure (c2) (by simp) (by simp) ?_; try simp )
      | (refine CallK.intro (c2) (by simp) (by simp) ?_; try simp )
      | (refine CallG.intro (fun _ => c2) (by simp) (by simp) ?_; try simp )
      | ((with_reducible refine PreK.intro ?_ ?_); (next => (first | omega | (intros; first | omega | (refine ⟨by omega, ?_⟩; repeat (first | assumption | constructor)) | assumption))); intro _; try simp )
      | fail)
    try simp 
    repeat' (first
      | (refine CallX.pure (known_c) (by simp) (by simp) ?_; try simp )
      | (refine CallK.intro (known_c) (by simp) (by simp) ?_; try simp )
      | (refine CallG.intro (fun _ => known_c) (by simp) (by simp) ?_; try simp )
      | ((with_reducible refine PreK.intro ?_ ?_); (next => (first | omega | (intros; first | omega | (refine ⟨by omega, ?_⟩; repeat (first | assumption | constructor)) | assumption))); intro _; try simp )
      | fail)
theorem sameNames_c (a b : List (Int × Int)) (ha : a.length ≤ 1000) : CallP Try.prog 15 [namesV a, namesV b] (bv (decide (a = b))) := by
  refine C15 (by simp) ?_
  generalize hR : decide (a = b) = R
  simp [A15]
  refine CondK.intro (fun h1 => ?_) (fun h1 => ?_)
  · simp at h1
    have : a ≠ b := fun e => h1 (by rw [e])
    simp [this] at hR
    simp [hR]
  · simp at h1
    try simp 
    refine LoopK.by (fun i : Nat => ⟨[(5, iv i), (0, namesV a), (1, namesV b)], []⟩) (fun i => a.length - i) (fun i => i ≤ a.length ∧ decide (a.drop i = b.drop i) = R) 0 (by simpa using hR) (by simp) ?_
    intro i Q' ⟨hi, hc⟩ hq he hr
    try simp 
    refine CondK.intro (fun h2 => ?_) (fun h2 => ?_)
    · simp at h2
      have h2b : i < b.length := by omega
      rw [drop_cons a i h2, drop_cons b i h2b] at hc
      try simp [h2, h2b]
      repeat (refine PreK.intro (by first | omega | (intros; first | omega | (refine ⟨by omega, ?_⟩; simp_all; done) | (simp_all; done) | (simp_all; omega))) fun _ => ?_; (try simp [h2, h2b]))
      refine CondK.intro (fun h3 => ?_) (fun h3 => ?_)
      · have hne : el a i ≠ el b i := fun e => by rw [e] at h3; simp at h3
        simp [hne] at hc
        try simp 
        apply hr
        simp [hc]
      · have heq : el a i = el b i := by
          simp at h3
          exact Prod.ext (by omega) (by omega)
        simp [heq] at hc
        repeat (refine PreK.intro (by first | omega | (intros; first | omega | (refine ⟨by omega, ?_⟩; simp_all; done) | (simp_all; done) | (simp_all; omega))) fun _ => ?_; (try simp ))
        exact hq (i + 1) _ ⟨by omega, by simpa using hc⟩ (by omega) (by simp)
    · simp at h2
      rw [List.drop_eq_nil_of_le (by omega), List.drop_eq_nil_of_le (by omega)] at hc
      simp at hc
      try simp 
      apply he
      simp [hc]
theorem lawSoundNames_c (t : List (List Int)) (hb : t.length ≤ big) : CallP Try.prog 3 [tabV t] (bv true) := by
  refine C3 (by simp) ?_
  have hlg := Long_c t hb
  simp [A3]
  try simp 
  repeat' (first
    | (refine CallX.pure (hlg) (by simp) (by simp) ?_; try simp )
    | (refine CallK.intro (hlg) (by simp) (by simp) ?_; try simp )
    | (refine CallG.intro (fun _ => hlg) (by simp) (by simp) ?_; try simp )
    | ((with_reducible refine PreK.intro ?_ ?_); (next => (first | omega | (intros; first | omega | (refine ⟨by omega, ?_⟩; repeat (first | assumption | constructor)) | assumption))); intro _; try simp )
    | fail)
  cases hL : longT t with
  | true =>
    refine CondK.tt ?_
    try simp 
    try simp 
    repeat' (first
      | (refine CallX.pure (known_c) (by simp) (by simp) ?_; try simp )
      | (refine CallK.intro (known_c) (by simp) (by simp) ?_; try simp )
      | (refine CallG.intro (fun _ => known_c) (by simp) (by simp) ?_; try simp )
      | ((with_reducible refine PreK.intro ?_ ?_); (next => (first | omega | (intros; first | omega | (refine ⟨by omega, ?_⟩; repeat (first | assumption | constructor)) | assumption))); intro _; try simp )
      | fail)
  | false =>
    refine CondK.ff ?_
    try simp 
    have hs := longT_small hL
    have c1 := Names_c t hs
    have c2 := rNames_c t hs
    have c3 := Classes_c t hs
    have c4 := rClasses_c t hs
    have hlen : (NamesE t).1.length = (ClassesE t).1.length ∧ (NamesE t).1.length ≤ 36 ∧ ∀ x ∈ (ClassesE t).1, x.length ≤ 6 := by
      unfold NamesE ClassesE
      by_cases h0 : tabErr t = 0
      · have hok := tabErr_zero.1 h0
        rw [if_neg (by simpa using h0), if_neg (by simpa using h0)]
        exact ⟨(classes_len hok).symm, names_num hok, fun x hx => (class_up hok hx).2.2⟩
      · rw [if_pos h0, if_pos h0]
        exact ⟨rfl, by simp, by simp⟩
    obtain ⟨l1, l2, l3⟩ := hlen
    generalize NamesE t = N at *
    generalize ClassesE t = C at *
    obtain ⟨N, e1⟩ := N
    obtain ⟨C, e2⟩ := C
    dsimp only at *
    have c7 := sameNames_c N N (by omega)
    have c8 := sameLists_c C C (by simp only [big]; omega) (fun x hx => by have := l3 x hx; simp only [big]; omega)
    try simp 
    repeat' (first
      | (refine CallX.pure (c1) (by simp) (by simp) ?_; try simp )
      | (refine CallK.intro (c1) (by simp) (by simp) ?_; try simp )
      | (refine CallG.intro (fun _ => c1) (by simp) (by simp) ?_; try simp )
      | (refine CallX.pure (c2) (by simp) (by simp) ?_; try simp )
      | (refine CallK.intro (c2) (by simp) (by simp) ?_; try simp )
      | (refine CallG.intro (fun _ => c2) (by simp) (by simp) ?_; try simp )
      | (refine CallX.pure (c3) (by simp) (by simp) ?_; try simp )
      | (refine CallK.intro (c3) (by simp) (by simp) ?_; try simp )
      | (refine CallG.intro (fun _ => c3) (by simp) (by simp) ?_; try simp )
      | (refine CallX.pure (c4) (by simp) (by simp) ?_; try simp )
      | (refine CallK.intro (c4) (by simp) (by simp) ?_; try simp )
      | (refine CallG.intro (fun _ => c4) (by simp) (by simp) ?_; try simp )
      | ((with_reducible refine PreK.intro ?_ ?_); (next => (first | omega | (intros; first | omega | (refine ⟨by omega, ?_⟩; repeat (first | assumption | constructor)) | assumption))); intro _; try simp )
      | fail)
    try simp 
    repeat' (first
      | (refine CallX.pure (c7) (by simp) (by simp) ?_; try simp )
      | (refine CallK.intro (c7) (by simp) (by simp) ?_; try simp )
      | (refine CallG.intro (fun _ => c7) (by simp) (by simp) ?_; try simp )
      | ((with_reducible refine PreK.intro ?_ ?_); (next => (first | omega | (intros; first | omega | (refine ⟨by omega, ?_⟩; repeat (first | assumption | constructor)) | assumption))); intro _; try simp )
      | fail)
    try simp [l1]
    repeat' (first
      | (refine CallX.pure (c8) (by simp) (by simp) ?_; try simp [l1])
      | (refine CallK.intro (c8) (by simp) (by simp) ?_; try simp [l1])
      | (refine CallG.intro (fun _ => c8) (by simp) (by simp) ?_; try simp [l1])
      | (refine CallX.pure (known_c) (by simp) (by simp) ?_; try simp [l1])
      | (refine CallK.intro (known_c) (by simp) (by simp) ?_; try simp [l1])
      | (refine CallG.intro (fun _ => known_c) (by simp) (by simp) ?_; try simp [l1])
      | ((with_reducible refine PreK.intro ?_ ?_); (next => (first | omega | (intros; first | omega | (refine ⟨by omega, ?_⟩; repeat (first | assumption | constructor)) | assumption))); intro _; try simp [l1])
      | fail)
end Go.Proofs.Ytgfgkfkplidncaa
end

section
/- Contracts: by which names a set is named; the statements SoundStands, SoundNamed. -/
namespace Go.Proofs.Ytgfgkfkplidncaa
open Go.Abs Go
set_option maxRecDepth 20000
set_option maxHeartbeats 2000000
attribute [local irreducible] PreK CondK CallK CallG CallX LoopK
attribute [local simp] avsEq avEq akind teq vkind vEq

abbrev Nm := Int × Int
def idxG (p : Nm → Bool) : Nat → List Nm → Int
  | _, [] => -1
  | k, x :: r => if p x then k else idxG p (k + 1) r
theorem idxG_none {p : Nm → Bool} : ∀ {l : List Nm} {k : Nat}, idxG p k l = -1 → l.filter (fun x => !p x) = l
  | [], k, _ => rfl
  | x :: r, k, h => by
    rw [idxG] at h
    split at h
    · omega
    · rename_i hx
      simp only [Bool.not_eq_true] at hx
      simp [hx, idxG_none h]
theorem idxG_at {p : Nm → Bool} : ∀ {l : List Nm} {k : Nat}, idxG p k l ≠ -1 → ∃ i : Nat, idxG p k l = ((k + i : Nat) : Int) ∧ i < l.length ∧ (l.take i).filter (fun x => !p x) = l.take i ∧ p (el l i) = true
  | [], k, h => by simp [idxG] at h
  | x :: r, k, h => by
    rw [idxG] at h
    by_cases hx : p x = true
    · exact ⟨0, by rw [idxG, if_pos hx]; simp, by simp, by simp, by simpa [el] using hx⟩
    · rw [if_neg hx] at h
      obtain ⟨i, h1, h2, h3, h4⟩ := idxG_at h
      simp only [Bool.not_eq_true] at hx
      refine ⟨i + 1, by rw [idxG, hx]; simp only [Bool.false_eq_true, if_false]; rw [h1]; congr 1; omega, by simpa using h2, by simp [hx, h3], by simpa [el] using h4⟩
theorem el_setN (o : List Nm) (i k : Nat) (v : Nm) (hi : i < o.length) : el (o.set i v) k = if i = k then v else el o k := by
  unfold el
  rw [List.getD_eq_getElem?_getD, List.getD_eq_getElem?_getD, List.getElem?_set]
  by_cases h : i = k
  · subst h; simp [hi]
  · simp [h]
theorem indexFuncN_c (l : List Nm) (hl : l.length ≤ 1000) (f : FuncId) (cap : List AV) (p : Nm → Bool) (hp : ∀ x, CallP Try.prog f (pairV x :: cap) (bv (p x))) (h1 : ∀ m, snapL m cap = cap) (h2 : AV.refsL cap = []) (h3 : ∀ m, snapOKL m cap) :
    CallP Try.prog 87 [namesV l, .fn f [] cap] (iv (idxG p 0 l)) := by
  refine C87 (by simp) ?_
  generalize hR : idxG p 0 l = R
  simp [A87]
  refine LoopK.by (fun i : Nat => ⟨[(8, iv i), (7, iv l.length), (0, namesV l), (1, .fn f [] cap)], []⟩) (fun i => l.length - i) (fun i => i ≤ l.length ∧ idxG p i (l.drop i) = R) 0 (by simpa using hR) (by simp [h2]) ?_
  intro i Q' ⟨hi, hc⟩ hq he hr
  try simp 
  refine CondK.intro (fun h => ?_) (fun h => ?_)
  · simp at h
    rw [drop_cons l i h, idxG] at hc
    have hpx := hp (el l i)
    simp only [pairV] at hpx
    generalize p (el l i) = b at hpx hc
    try simp [h]
    repeat (refine PreK.intro (by first | omega | (intros; first | omega | (refine ⟨by omega, ?_⟩; simp_all; done) | (simp_all; done) | (simp_all; omega))) fun _ => ?_; (try simp [h]))
    refine CallX.pure (by simpa [h1] using hpx) (by simp [h3]) (by simp) ?_
    try simp 
    cases b with
    | true =>
      simp only [if_true] at hc
      refine CondK.tt ?_
      try simp 
      repeat (refine PreK.intro (by first | omega | (intros; first | omega | (refine ⟨by omega, ?_⟩; simp_all; done) | (simp_all; done) | (simp_all; omega))) fun _ => ?_; (try simp ))
      apply hr
      simp [hc]
    | false =>
      simp only [Bool.false_eq_true, if_false] at hc
      refine CondK.ff ?_
      try simp 
      repeat (refine PreK.intro (by first | omega | (intros; first | omega | (refine ⟨by omega, ?_⟩; simp_all; done) | (simp_all; done) | (simp_all; omega))) fun _ => ?_; (try simp ))
      exact hq (i + 1) _ ⟨by omega, hc⟩ (by omega) (by simp [h2])
  · simp at h
    rw [List.drop_eq_nil_of_le (by omega), idxG] at hc
    try simp 
    apply he
    simp [hc]
theorem deleteFuncN_L (l : List Nm) (hl : l.length ≤ 1000) (f : FuncId) (cap : List AV) (p : Nm → Bool) (hp : ∀ x, CallP Try.prog f (pairV x :: cap) (bv (p x))) (h1 : ∀ m, snapL m cap = cap) (h2 : AV.refsL cap = []) (h3 : ∀ m, snapOKL m cap) :
    CallL Try.prog 66 [] 2 (l.map pairV) [.fn f [] cap] (.part (l.filter fun x => !p x).length) (((l.filter fun x => !p x) ++ List.replicate (l.length - (l.filter fun x => !p x).length) (0, 0)).map pairV) := by
  refine CL66 (by simp) ?_
  generalize hR : (l.filter fun x => !p x) = R
  have hx := indexFuncN_c l hl f cap p hp h1 h2 h3
  simp [A66]
  refine CallX.pure (by simpa [h1] using hx) (by simp [h3]) (by simp) ?_
  try simp 
  refine CondK.intro (fun hc => ?_) (fun hc => ?_)
  · simp at hc
    have := idxG_none hc
    rw [this] at hR
    subst hR
    simp
  · simp at hc
    obtain ⟨i0, e1, e2, e3, e4⟩ := idxG_at hc
    rw [e1]
    repeat (refine PreK.intro (by first | omega | (intros; first | omega | (refine ⟨by omega, ?_⟩; simp_all; done) | (simp_all; done) | (simp_all; omega))) fun _ => ?_; (try simp ))
    have hin : l.take i0 ++ (l.drop (i0 + 1)).filter (fun x => !p x) = R := by
      rw [← hR]
      conv => rhs; rw [← List.take_append_drop i0 l, List.filter_append, e3, drop_cons l i0 e2]
      simp [e4]
    refine LoopK.by (ι := Nat × List Nm × List Nm) (fun i => ⟨[(6, iv i.1), (5, iv i.2.1.length), (0, .sl lid 0 0 l.length), (1, .fn f [] cap)], [(lid, some ⟨2, i.2.2.map pairV, 0, false⟩)]⟩) (fun i => l.length - i.1)
      (fun i => i.1 ≤ l.length ∧ i.2.1.length < i.1 ∧ i.2.2.length = l.length ∧ (∀ k, i.1 ≤ k → el i.2.2 k = el l k) ∧ i.2.2.take i.2.1.length = i.2.1 ∧ i.2.1 ++ (l.drop i.1).filter (fun x => !p x) = R) (i0 + 1, l.take i0, l) ⟨by dsimp only; omega, by simp; omega, rfl, fun _ _ => rfl, by simp, hin⟩ (by have hm : min i0 l.length = i0 := (by omega); simp [h2, hm]) ?_
    intro ⟨j, kept, cur⟩ Q' ⟨hj, hk, hcl, hce, hct, hin⟩ hq he hr
    dsimp only at hj hk hcl hce hct hin
    try simp 
    refine CondK.intro (fun h4 => ?_) (fun h4 => ?_)
    · simp at h4
      have hej := hce j (Nat.le_refl _)
      rw [drop_cons l j h4, List.filter_cons] at hin
      have hcj : j < cur.length := by omega
      have hpx := hp (el l j)
      simp only [pairV] at hpx
      generalize p (el l j) = b at hpx hin
      try simp [hcj, hej]
      repeat (refine PreK.intro (by first | omega | (intros; first | omega | (refine ⟨by omega, ?_⟩; simp_all; done) | (simp_all; done) | (simp_all; omega))) fun _ => ?_; (try simp [hcj, hej]))
      refine CallX.pure (by simpa [h1, hej] using hpx) (by simp [h3]) (by simp) ?_
      try simp 
      cases b with
      | false =>
        simp only [Bool.not_false, if_true] at hin
        have hkc : kept.length < cur.length := by omega
        try simp [hcj, hej, hkc]
        repeat (refine PreK.intro (by first | omega | (intros; first | omega | (refine ⟨by omega, ?_⟩; simp_all; done) | (simp_all; done) | (simp_all; omega))) fun _ => ?_; (try simp [hcj, hej, hkc]))
        refine CondK.tt ?_
        try simp 
        try simp [hcj, hej, hkc]
        repeat (refine PreK.intro (by first | omega | (intros; first | omega | (refine ⟨by omega, ?_⟩; simp_all; done) | (simp_all; done) | (simp_all; omega))) fun _ => ?_; (try simp [hcj, hej, hkc]))
        refine hq (j + 1, kept ++ [el l j], cur.set kept.length (el l j)) _ ⟨by dsimp only; omega, by simp; omega, by simpa using hcl, fun k hk2 => ?_, ?_, by simpa using hin⟩ (by dsimp only; omega) (by simp [h2, hkc, hcj, hej, List.map_set])
        · dsimp only at hk2 ⊢
          rw [el_setN _ _ _ _ (by omega), if_neg (by omega)]
          exact hce k (by omega)
        · simp only [List.length_append, List.length_cons, List.length_nil]
          rw [take_setG _ _ _ (by omega), hct]
      | true =>
        simp only [Bool.not_true, Bool.false_eq_true, if_false] at hin
        try simp [hcj, hej]
        repeat (refine PreK.intro (by first | omega | (intros; first | omega | (refine ⟨by omega, ?_⟩; simp_all; done) | (simp_all; done) | (simp_all; omega))) fun _ => ?_; (try simp [hcj, hej]))
        refine CondK.ff ?_
        try simp 
        repeat (refine PreK.intro (by first | omega | (intros; first | omega | (refine ⟨by omega, ?_⟩; simp_all; done) | (simp_all; done) | (simp_all; omega))) fun _ => ?_; (try simp ))
        exact hq (j + 1, kept, cur) _ ⟨by dsimp only; omega, by dsimp only; omega, hcl, fun k hk2 => hce k (by dsimp only at hk2; omega), hct, hin⟩ (by dsimp only; omega) (by simp [h2])
    · simp at h4
      rw [List.drop_eq_nil_of_le (by omega)] at hin
      simp only [List.filter_nil, List.append_nil] at hin
      subst hin
      have e5 : (cur.map pairV).take kept.length = kept.map pairV := by rw [← List.map_take, hct]
      have e6 : (cur.map pairV).drop (kept.length + (l.length - kept.length)) = [] := List.drop_eq_nil_of_le (by simp; omega)
      try simp 
      apply he
      repeat (refine PreK.intro (by first | omega | (intros; first | omega | (refine ⟨by omega, ?_⟩; simp_all; done) | (simp_all; done) | (simp_all; omega))) fun _ => ?_; (try simp ))
      simp [e5, e6]
theorem standE_len {t : Tab} (h : TabOK t) (s r : Int) : (standE t s r).1.length ≤ 6 := by
  unfold standE
  split
  · exact six_len ((sortI_perm _).nodup_iff.2 (seg_nd h _ _)) fun y hy => seg_val h (mem_sortI.1 hy)
  · simp
theorem named1_c (t : Tab) (h : TabOK t) (set : List Int) (x : Nm) : CallP Try.prog 67 [pairV x, .ipt (lineV t) 0, .ipt (ints set) 0] (bv (!decide ((standE t x.1 x.2).1 = set))) := by
  refine C67 (by simp) ?_
  have hst := stand_c t h x.1 x.2
  have hel := standE_len h x.1 x.2
  unfold lineV at hst ⊢
  generalize standE t x.1 x.2 = S at *
  generalize t.flatten = L at *
  generalize rowsF 0 t = R at *
  obtain ⟨own, ok⟩ := S
  dsimp only at *
  have heq := equal_c own set (sbig (by omega))
  simp [A67]
  try simp 
  repeat' (first
    | (refine CallX.pure (hst) (by simp) (by simp) ?_; try simp )
    | (refine CallK.intro (hst) (by simp) (by simp) ?_; try simp )
    | (refine CallG.intro (fun _ => hst) (by simp) (by simp) ?_; try simp )
    | ((with_reducible refine PreK.intro ?_ ?_); (next => (first | omega | (intros; first | omega | (refine ⟨by omega, ?_⟩; repeat (first | assumption | constructor)) | assumption))); intro _; try simp )
    | fail)
  repeat (refine PreK.intro (by first | omega | (intros; first | omega | (refine ⟨by omega, ?_⟩; simp_all; done) | (simp_all; done) | (simp_all; omega))) fun _ => ?_; (try simp ))
  try simp 
  repeat' (first
    | (refine CallX.pure (heq) (by simp) (by simp) ?_; try simp )
    | (refine CallK.intro (heq) (by simp) (by simp) ?_; try simp )
    | (refine CallG.intro (fun _ => heq) (by simp) (by simp) ?_; try simp )
    | ((with_reducible refine PreK.intro ?_ ?_); (next => (first | omega | (intros; first | omega | (refine ⟨by omega, ?_⟩; repeat (first | assumption | constructor)) | assumption))); intro _; try simp )
    | fail)
  repeat (refine PreK.intro (by first | omega | (intros; first | omega | (refine ⟨by omega, ?_⟩; simp_all; done) | (simp_all; done) | (simp_all; omega))) fun _ => ?_; (try simp ))
def namedM (t : Tab) (set : List Int) : List Nm := (namesM t).filter fun x => decide (standM t x.1 x.2.toNat = set)
def NamedE (t : Tab) (set : List Int) : List Nm × Int := if tabErr t ≠ 0 then ([], tabErr t) else if setG 5 none set = false then ([], 1) else (namedM t set, 0)
theorem Named_c (t : Tab) (set : List Int) (h : Sm t) (hsl : set.length ≤ 1000) : CallP Try.prog 35 [tabV t, ints set] (.tup [namesV (NamedE t set).1, iv (NamedE t set).2]) := by
  refine C35 (by simp) ?_
  have hv := Validate_c t h
  have hi := isSet_c set 6 hsl (by omega)
  unfold NamedE
  by_cases h0 : tabErr t = 0
  · have hok := tabErr_zero.1 h0
    have hlo := lineOf_c t hok
    have hno := names_o t hok
    have hnn := names_num hok
    have hd := deleteFuncN_L (namesM t) (by omega) 67 [.ipt (lineV t) 0, .ipt (ints set) 0] _ (named1_c t hok set) (by simp) (by simp) (by simp)
    have hfl : ((namesM t).filter fun x => !!decide ((standE t x.1 x.2).1 = set)) = namedM t set := by
      unfold namedM
      refine List.filter_congr fun x hx => ?_
      have hn := (mem_namesM hok).1 hx
      rw [Bool.not_not, show standE t x.1 x.2 = (standM t x.1 x.2.toNat, true) by simp [standE, hn]]
    rw [hfl] at hd
    rw [h0] at hv ⊢
    rw [if_neg (by simp)]
    rw [show (6 : Int) - 1 = 5 by omega] at hi
    have hml : (namedM t set).length ≤ (namesM t).length := List.length_filter_le _ _
    unfold lineV at hlo hd
    generalize namesM t = N at *
    generalize namedM t set = M at *
    generalize t.flatten = L at *
    generalize rowsF 0 t = R at *
    generalize setG 5 none set = b at *
    simp [A35]
    try simp 
    repeat' (first
      | (refine CallX.pure (hv) (by simp) (by simp) ?_; try simp )
      | (refine CallK.intro (hv) (by simp) (by simp) ?_; try simp )
      | (refine CallG.intro (fun _ => hv) (by simp) (by simp) ?_; try simp )
      | ((with_reducible refine PreK.intro ?_ ?_); (next => (first | omega | (intros; first | omega | (refine ⟨by omega, ?_⟩; repeat (first | assumption | constructor)) | assumption))); intro _; try simp )
      | fail)
    refine CondK.ff ?_
    try simp 
    repeat (refine PreK.intro (by first | omega | (intros; first | omega | (refine ⟨by omega, ?_⟩; simp_all; done) | (simp_all; done) | (simp_all; omega))) fun _ => ?_; (try simp ))
    try simp 
    repeat' (first
      | (refine CallX.pure (hi) (by simp) (by simp) ?_; try simp )
      | (refine CallK.intro (hi) (by simp) (by simp) ?_; try simp )
      | (refine CallG.intro (fun _ => hi) (by simp) (by simp) ?_; try simp )
      | ((with_reducible refine PreK.intro ?_ ?_); (next => (first | omega | (intros; first | omega | (refine ⟨by omega, ?_⟩; repeat (first | assumption | constructor)) | assumption))); intro _; try simp )
      | fail)
    cases b with
    | false =>
      refine CondK.tt ?_
      try simp 
      repeat (refine PreK.intro (by first | omega | (intros; first | omega | (refine ⟨by omega, ?_⟩; simp_all; done) | (simp_all; done) | (simp_all; omega))) fun _ => ?_; (try simp ))
    | true =>
      refine CondK.ff ?_
      try simp 
      repeat (refine PreK.intro (by first | omega | (intros; first | omega | (refine ⟨by omega, ?_⟩; simp_all; done) | (simp_all; done) | (simp_all; omega))) fun _ => ?_; (try simp ))
      try simp 
      repeat' (first
        | (refine CallX.pure (hlo) (by simp) (by simp) ?_; try simp )
        | (refine CallK.intro (hlo) (by simp) (by simp) ?_; try simp )
        | (refine CallG.intro (fun _ => hlo) (by simp) (by simp) ?_; try simp )
        | ((with_reducible refine PreK.intro ?_ ?_); (next => (first | omega | (intros; first | omega | (refine ⟨by omega, ?_⟩; repeat (first | assumption | constructor)) | assumption))); intro _; try simp )
        | fail)
      repeat (refine PreK.intro (by first | omega | (intros; first | omega | (refine ⟨by omega, ?_⟩; simp_all; done) | (simp_all; done) | (simp_all; omega))) fun _ => ?_; (try simp ))
      refine CallX.own (by simpa using hno) (by simp) (by simp) ?_
      try simp 
      repeat (refine PreK.intro (by first | omega | (intros; first | omega | (refine ⟨by omega, ?_⟩; simp_all; done) | (simp_all; done) | (simp_all; omega))) fun _ => ?_; (try simp ))
      refine CallX.frz 7 (b := ⟨2, [.agg [ints L, ints R]], 1, true⟩) (by simp) (by simp) ?_
      refine CallX.frz 3 (b := ⟨1, [ints set], 1, true⟩) (by simp) (by simp) ?_
      try simp 
      refine CallX.lend [] (id := 19) (ver := 1) (n := N.length) (b := ⟨2, N.map pairV, 1, false⟩) [.fn 67 [] [.ipt (.agg [ints L, ints R]) 0, .ipt (ints set) 0]] (.part M.length) _ (by simp) (by simp) (by simp) (by simp) (by simp) (by simp) (by simp) (by simpa using hd) ?_
      repeat (refine PreK.intro (by first | omega | (intros; first | omega | (refine ⟨by omega, ?_⟩; simp_all; done) | (simp_all; done) | (simp_all; omega))) fun _ => ?_; (try simp ))
  · rw [if_pos h0]
    generalize tabErr t = e at *
    simp [A35]
    try simp 
    repeat' (first
      | (refine CallX.pure (hv) (by simp) (by simp) ?_; try simp )
      | (refine CallK.intro (hv) (by simp) (by simp) ?_; try simp )
      | (refine CallG.intro (fun _ => hv) (by simp) (by simp) ?_; try simp )
      | ((with_reducible refine PreK.intro ?_ ?_); (next => (first | omega | (intros; first | omega | (refine ⟨by omega, ?_⟩; repeat (first | assumption | constructor)) | assumption))); intro _; try simp )
      | fail)
    refine CondK.intro (fun h1 => ?_) (fun h1 => ?_)
    · repeat (refine PreK.intro (by first | omega | (intros; first | omega | (refine ⟨by omega, ?_⟩; simp_all; done) | (simp_all; done) | (simp_all; omega))) fun _ => ?_; (try simp ))
    · simp at h1
      exact absurd h1 h0
/-! ### the statements -/
theorem filter_one {α : Type} [DecidableEq α] {l : List α} {p : α → Bool} {x : α} (hn : l.Nodup) (hx : ∀ y, y ∈ l ∧ p y = true ↔ y = x) : l.filter p = [x] := by
  have h1 : (l.filter p).Perm [x] := perm_of_mem (List.Nodup.sublist List.filter_sublist hn) (by simp) fun y => by
    rw [List.mem_filter, List.mem_singleton]; exact hx y
  exact List.perm_singleton.1 h1
theorem named_one {t : Tab} (h : TabOK t) {s r : Int} (hn : isName t s r = true) : namedM t (standM t s r.toNat) = [(s, r)] := by
  obtain ⟨h1, h2, h3⟩ := name_of hn
  refine filter_one (ltN_nodup (namesM_sorted t)) fun y => ?_
  obtain ⟨a, b⟩ := y
  rw [mem_namesM h, decide_eq_true_eq]
  constructor
  · rintro ⟨k1, k2⟩
    obtain ⟨g1, g2, g3⟩ := name_of k1
    obtain ⟨rfl, e⟩ := stand_inj h g3 h3 g2 h2 k2
    exact Prod.ext rfl (by dsimp only; omega)
  · intro e
    cases e
    exact ⟨hn, rfl⟩
theorem stand_law {t : Tab} {s r : Int} (h : (StandE t s r).2 = 0) : NamedE t (StandE t s r).1 = ([(s, r)], 0) := by
  unfold StandE at h ⊢
  split at h
  · rename_i h0; exact absurd h h0
  · rename_i h0
    have hok := tabErr_zero.1 (by simpa using h0)
    rw [if_neg h0]
    split at h
    · rename_i h1
      rw [if_pos h1]
      dsimp only
      have hset : setG 5 none (standM t s r.toNat) = true := setG_of (fun x hx => seg_val hok (mem_sortI.1 hx)) (sortI_lt (seg_nd hok _ _)) fun y hy => by cases hy
      unfold NamedE
      rw [if_neg h0, hset, if_neg (by simp), named_one hok h1]
    · cases h
theorem stand_len {t : Tab} (s r : Int) : (StandE t s r).1.length ≤ 6 := by
  unfold StandE
  split
  · simp
  · rename_i h0
    have hok := tabErr_zero.1 (by simpa using h0)
    split
    · exact six_len ((sortI_perm _).nodup_iff.2 (seg_nd hok _ _)) fun y hy => seg_val hok (mem_sortI.1 hy)
    · simp
theorem lawSoundStands_c (t : List (List Int)) (x : Nm) (hb : t.length ≤ big) : CallP Try.prog 8 [tabV t, pairV x] (bv true) := by
  refine C8 (by simp) ?_
  have hlg := Long_c t hb
  simp [A8]
  try simp 
  repeat' (first
    | (refine CallX.pure (hlg) (by simp) (by simp) ?_; try simp )
    | (refine CallK.intro (hlg) (by simp) (by simp) ?_; try simp )
    | (refine CallG.intro (fun _ => hlg) (by simp) (by simp) ?_; try simp )
    | ((with_reducible refine PreK.intro ?_ ?_); (next => (first | omega | (intros; first | omega | (refine ⟨by omega, ?_⟩; repeat (first | assumption | constructor)) | assumption))); intro _; try simp )
    | fail)
  cases hL : longT t with
  | true =>
    refine CondK.tt ?_
    try simp 
    try simp 
    repeat' (first
      | (refine CallX.pure (known_c) (by simp) (by simp) ?_; try simp )
      | (refine CallK.intro (known_c) (by simp) (by simp) ?_; try simp )
      | (refine CallG.intro (fun _ => known_c) (by simp) (by simp) ?_; try simp )
      | ((with_reducible refine PreK.intro ?_ ?_); (next => (first | omega | (intros; first | omega | (refine ⟨by omega, ?_⟩; repeat (first | assumption | constructor)) | assumption))); intro _; try simp )
      | fail)
  | false =>
    refine CondK.ff ?_
    try simp 
    have hs := longT_small hL
    have c1 := Stand_c t x.1 x.2 hs
    have c2 := rStand_c t x.1 x.2 hs
    have hsl := stand_len (t := t) x.1 x.2
    have c3 := Named_c t (StandE t x.1 x.2).1 hs (by omega)
    have hlaw := stand_law (t := t) (s := x.1) (r := x.2)
    generalize StandE t x.1 x.2 = S at *
    obtain ⟨a, e⟩ := S
    dsimp only at *
    have c7 := same1_c a a (sbig (by omega))
    simp only [pairV] at c1 c2
    repeat (refine PreK.intro (by first | omega | (intros; first | omega | (refine ⟨by omega, ?_⟩; simp_all; done) | (simp_all; done) | (simp_all; omega))) fun _ => ?_; (try simp ))
    try simp 
    repeat' (first
      | (refine CallX.pure (c1) (by simp) (by simp) ?_; try simp )
      | (refine CallK.intro (c1) (by simp) (by simp) ?_; try simp )
      | (refine CallG.intro (fun _ => c1) (by simp) (by simp) ?_; try simp )
      | ((with_reducible refine PreK.intro ?_ ?_); (next => (first | omega | (intros; first | omega | (refine ⟨by omega, ?_⟩; repeat (first | assumption | constructor)) | assumption))); intro _; try simp )
      | fail)
    repeat (refine PreK.intro (by first | omega | (intros; first | omega | (refine ⟨by omega, ?_⟩; simp_all; done) | (simp_all; done) | (simp_all; omega))) fun _ => ?_; (try simp ))
    try simp 
    repeat' (first
      | (refine CallX.pure (c2) (by simp) (by simp) ?_; try simp )
      | (refine CallK.intro (c2) (by simp) (by simp) ?_; try simp )
      | (refine CallG.intro (fun _ => c2) (by simp) (by simp) ?_; try simp )
      | ((with_reducible refine PreK.intro ?_ ?_); (next => (first | omega | (intros; first | omega | (refine ⟨by omega, ?_⟩; repeat (first | assumption | constructor)) | assumption))); intro _; try simp )
      | fail)
    try simp 
    repeat' (first
      | (refine CallX.pure (c7) (by simp) (by simp) ?_; try simp )
      | (refine CallK.intro (c7) (by simp) (by simp) ?_; try simp )
      | (refine CallG.intro (fun _ => c7) (by simp) (by simp) ?_; try simp )
      | ((with_reducible refine PreK.intro ?_ ?_); (next => (first | omega | (intros; first | omega | (refine ⟨by omega, ?_⟩; repeat (first | assumption | constructor)) | assumption))); intro _; try simp )
      | fail)
    refine CondK.ff ?_
    try simp 
    repeat (refine PreK.intro (by first | omega | (intros; first | omega | (refine ⟨by omega, ?_⟩; simp_all; done) | (simp_all; done) | (simp_all; omega))) fun _ => ?_; (try simp ))
    by_cases h0 : e = 0
    · subst h0
      rw [hlaw rfl] at c3
      have c8 := sameNames_c [(x.1, x.2)] [(x.1, x.2)] (by simp)
      simp only [decide_true] at c8
      try simp 
      repeat' (first
        | (refine CallX.pure (c3) (by simp) (by simp) ?_; try simp )
        | (refine CallK.intro (c3) (by simp) (by simp) ?_; try simp )
        | (refine CallG.intro (fun _ => c3) (by simp) (by simp) ?_; try simp )
        | ((with_reducible refine PreK.intro ?_ ?_); (next => (first | omega | (intros; first | omega | (refine ⟨by omega, ?_⟩; repeat (first | assumption | constructor)) | assumption))); intro _; try simp )
        | fail)
      repeat (refine PreK.intro (by first | omega | (intros; first | omega | (refine ⟨by omega, ?_⟩; simp_all; done) | (simp_all; done) | (simp_all; omega))) fun _ => ?_; (try simp ))
      refine CallG.intro (fun _ => by simpa using c8) (by simp) (by simp) ?_
      try simp 
      repeat (refine PreK.intro (by first | omega | (intros; first | omega | (refine ⟨by omega, ?_⟩; simp_all; done) | (simp_all; done) | (simp_all; omega))) fun _ => ?_; (try simp ))
      try simp 
      repeat' (first
        | (refine CallX.pure (known_c) (by simp) (by simp) ?_; try simp )
        | (refine CallK.intro (known_c) (by simp) (by simp) ?_; try simp )
        | (refine CallG.intro (fun _ => known_c) (by simp) (by simp) ?_; try simp )
        | ((with_reducible refine PreK.intro ?_ ?_); (next => (first | omega | (intros; first | omega | (refine ⟨by omega, ?_⟩; repeat (first | assumption | constructor)) | assumption))); intro _; try simp )
        | fail)
    · generalize NamedE t a = Nd at c3
      obtain ⟨nl, e2⟩ := Nd
      try simp 
      repeat' (first
        | (refine CallX.pure (c3) (by simp) (by simp) ?_; try simp )
        | (refine CallK.intro (c3) (by simp) (by simp) ?_; try simp )
        | (refine CallG.intro (fun _ => c3) (by simp) (by simp) ?_; try simp )
        | ((with_reducible refine PreK.intro ?_ ?_); (next => (first | omega | (intros; first | omega | (refine ⟨by omega, ?_⟩; repeat (first | assumption | constructor)) | assumption))); intro _; try simp )
        | fail)
      try simp [h0]
      repeat (refine PreK.intro (by first | omega | (intros; first | omega | (refine ⟨by omega, ?_⟩; simp_all; done) | (simp_all; done) | (simp_all; omega))) fun _ => ?_; (try simp [h0]))
      refine CallG.intro (r := (bv true)) (fun hh => by cases hh) (by simp) (by simp) ?_
      try simp 
      try simp [h0]
      repeat (refine PreK.intro (by first | omega | (intros; first | omega | (refine ⟨by omega, ?_⟩; simp_all; done) | (simp_all; done) | (simp_all; omega))) fun _ => ?_; (try simp [h0]))
      try simp 
      repeat' (first
        | (refine CallX.pure (known_c) (by simp) (by simp) ?_; try simp )
        | (refine CallK.intro (known_c) (by simp) (by simp) ?_; try simp )
        | (refine CallG.intro (fun _ => known_c) (by simp) (by simp) ?_; try simp )
        | ((with_reducible refine PreK.intro ?_ ?_); (next => (first | omega | (intros; first | omega | (refine ⟨by omega, ?_⟩; repeat (first | assumption | constructor)) | assumption))); intro _; try simp )
        | fail)
end Go.Proofs.Ytgfgkfkplidncaa
end
