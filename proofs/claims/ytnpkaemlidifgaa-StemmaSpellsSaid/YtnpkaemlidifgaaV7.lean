/- Part 7 of the proof: the value layer and the contracts of the functions that the statement reaches; proved without conditions beyond those each theorem states. -/
import Derived.Shelf.SlSortCmp.Whole1
import Derived.Shelf.SlSortCmp.NoneTotal
import Derived.Shelf.Sort.Plain
import Derived.Shelf.Slices.In.SortNone
import Derived.Test.YtnpkaemlidifgaaProg
import Derived.Test.YtnpkaemlidifgaaV4
import Derived.Test.YtnpkaemlidifgaaV6
set_option linter.unusedSimpArgs false
set_option linter.unusedVariables false

section
/- Contracts: what trees are right, and the errors of places. -/
namespace Go.Proofs.Ytnpkaemlidifgaa
open Go.Abs Go
set_option maxRecDepth 20000
set_option maxHeartbeats 2000000
attribute [local irreducible] PreK CondK CallK CallG CallX LoopK
attribute [local simp] avsEq avEq akind teq vkind vEq

theorem treeIf {par ats : List Int} : treeErr par ats = if par.length = 0 ∨ 16 < par.length then 3 else if 6 < ats.length then 3 else if el par 0 ≠ -1 then 1 else if parBad 0 par then 1
  else if ats.any (fun n => !(decide (0 ≤ n) && decide (n ≤ (par.length : Int) - 1))) then 1 else 0 := rfl
def atBad (n : Nat) (x : Int) : Bool := !(decide (0 ≤ x) && decide (x ≤ (n : Int) - 1))
theorem ValidateTree_c (par ats : List Int) (hp : par.length ≤ 1000) (ha : ats.length ≤ 1000) : CallP Try.prog 27 [treeV par ats] (iv (treeErr par ats)) := by
  refine C27 (by simp) ?_
  have hw := swithin_c par.length 1 16
  generalize hR : treeErr par ats = R
  rw [treeIf] at hR
  simp [A27]
  by_cases h0 : par.length = 0
  · rw [if_pos (.inl h0)] at hR
    rw [h0] at hw
    obtain rfl : par = [] := List.eq_nil_of_length_eq_zero h0
    try simp 
    repeat' (first
      | (refine CallX.pure (hw) (by simp) (by simp) ?_; try simp )
      | (refine CallK.intro (hw) (by simp) (by simp) ?_; try simp )
      | (refine CallG.intro (fun _ => hw) (by simp) (by simp) ?_; try simp )
      | ((with_reducible refine PreK.intro ?_ ?_); (next => (first | omega | (intros; first | omega | (refine ⟨by omega, ?_⟩; repeat (first | assumption | constructor)) | assumption))); intro _; try simp )
      | fail)
    refine CondK.tt ?_
    try simp 
    exact hR
  · have e3 : 0 < par.length := by omega
    by_cases h6 : 16 < par.length
    · rw [if_pos (.inr h6)] at hR
      have e1 : ¬ (par.length : Int) ≤ 16 := by omega
      simp only [e1, decide_false, Bool.and_false] at hw
      try simp [e1, e3]
      repeat' (first
        | (refine CallX.pure (hw) (by simp) (by simp) ?_; try simp [e1, e3])
        | (refine CallK.intro (hw) (by simp) (by simp) ?_; try simp [e1, e3])
        | (refine CallG.intro (fun _ => hw) (by simp) (by simp) ?_; try simp [e1, e3])
        | ((with_reducible refine PreK.intro ?_ ?_); (next => (first | omega | (intros; first | omega | (refine ⟨by omega, ?_⟩; repeat (first | assumption | constructor)) | assumption))); intro _; try simp [e1, e3])
        | fail)
      refine CondK.tt ?_
      try simp 
      exact hR
    · have e1 : (par.length : Int) ≤ 16 := by omega
      have e2 : (1 : Int) ≤ par.length := by omega
      rw [if_neg (by omega)] at hR
      simp only [e1, e2, decide_true, Bool.and_true] at hw
      try simp [e3]
      repeat' (first
        | (refine CallX.pure (hw) (by simp) (by simp) ?_; try simp [e3])
        | (refine CallK.intro (hw) (by simp) (by simp) ?_; try simp [e3])
        | (refine CallG.intro (fun _ => hw) (by simp) (by simp) ?_; try simp [e3])
        | ((with_reducible refine PreK.intro ?_ ?_); (next => (first | omega | (intros; first | omega | (refine ⟨by omega, ?_⟩; repeat (first | assumption | constructor)) | assumption))); intro _; try simp [e3])
        | fail)
      refine CondK.intro (fun h1 => ?_) (fun h1 => ?_)
      · simp at h1
        rw [if_pos (by omega)] at hR
        try simp 
        exact hR
      · simp at h1
        rw [if_neg (by omega)] at hR
        try simp [e3]
        repeat' (first
          | ((with_reducible refine PreK.intro ?_ ?_); (next => (first | omega | (intros; first | omega | (refine ⟨by omega, ?_⟩; repeat (first | assumption | constructor)) | assumption))); intro _; try simp [e3])
          | fail)
        refine CondK.intro (fun h2 => ?_) (fun h2 => ?_)
        · simp at h2
          rw [if_pos h2] at hR
          try simp 
          exact hR
        · simp at h2
          rw [if_neg (by simpa using h2)] at hR
          try simp [e3]
          repeat' (first
            | ((with_reducible refine PreK.intro ?_ ?_); (next => (first | omega | (intros; first | omega | (refine ⟨by omega, ?_⟩; repeat (first | assumption | constructor)) | assumption))); intro _; try simp [e3])
            | fail)
          refine LoopK.by (fun i : Nat => ⟨[(26, iv i), (25, iv par.length), (24, ints par), (1, .pt 1 1 0 0)], [(1, some ⟨2, [treeV par ats], 1, true⟩)]⟩) (fun i => par.length - i) (fun i => i ≤ par.length ∧ (if parBad i (par.drop i) = true then 1 else if (ats.any (atBad par.length)) = true then 1 else 0) = R) 0 ⟨Nat.zero_le _, hR⟩ (by simp) ?_
          intro i Q' ⟨hi, hc⟩ hq he hr
          try simp 
          refine CondK.intro (fun h3 => ?_) (fun h3 => ?_)
          · simp at h3
            rw [drop_cons par i h3, parBad] at hc
            have hw2 := swithin_c (el par i) 0 ((i : Int) - 1)
            by_cases h4 : 0 < i
            · have h4' : (0 : Int) < i := by omega
              simp only [h4, decide_true, Bool.true_and] at hc
              try simp [h3, h4, h4']
              repeat' (first
                | (refine CallX.pure (hw2) (by simp) (by simp) ?_; try simp [h3, h4, h4'])
                | (refine CallK.intro (hw2) (by simp) (by simp) ?_; try simp [h3, h4, h4'])
                | (refine CallG.intro (fun _ => hw2) (by simp) (by simp) ?_; try simp [h3, h4, h4'])
                | ((with_reducible refine PreK.intro ?_ ?_); (next => (first | omega | (intros; first | omega | (refine ⟨by omega, ?_⟩; repeat (first | assumption | constructor)) | assumption))); intro _; try simp [h3, h4, h4'])
                | fail)
              refine CondK.intro (fun h5 => ?_) (fun h5 => ?_)
              · have e : (!(decide (0 ≤ el par i) && decide (el par i ≤ (i : Int) - 1))) = true := by simp at h5; simp; omega
                rw [e] at hc
                simp only [Bool.true_or, if_true] at hc
                try simp 
                apply hr
                try simp 
                exact hc
              · have e : (!(decide (0 ≤ el par i) && decide (el par i ≤ (i : Int) - 1))) = false := by simp at h5; simp; omega
                rw [e] at hc
                simp only [Bool.false_or] at hc
                repeat (refine PreK.intro (by first | omega | (intros; first | omega | (refine ⟨by omega, ?_⟩; simp_all; done) | (simp_all; done) | (simp_all; omega))) fun _ => ?_; (try simp ))
                exact hq (i + 1) _ ⟨by omega, hc⟩ (by omega) (by simp)
            · obtain rfl : i = 0 := by omega
              simp only [Nat.lt_irrefl, decide_false, Bool.false_and, Bool.false_or] at hc
              try simp [h3]
              repeat' (first
                | (refine CallX.pure (hw2) (by simp) (by simp) ?_; try simp [h3])
                | (refine CallK.intro (hw2) (by simp) (by simp) ?_; try simp [h3])
                | (refine CallG.intro (fun _ => hw2) (by simp) (by simp) ?_; try simp [h3])
                | ((with_reducible refine PreK.intro ?_ ?_); (next => (first | omega | (intros; first | omega | (refine ⟨by omega, ?_⟩; repeat (first | assumption | constructor)) | assumption))); intro _; try simp [h3])
                | fail)
              refine CondK.ff ?_
              try simp 
              repeat (refine PreK.intro (by first | omega | (intros; first | omega | (refine ⟨by omega, ?_⟩; simp_all; done) | (simp_all; done) | (simp_all; omega))) fun _ => ?_; (try simp ))
              exact hq (0 + 1) _ ⟨by omega, hc⟩ (by omega) (by simp)
          · simp at h3
            rw [List.drop_eq_nil_of_le (by omega)] at hc
            simp only [parBad, Bool.false_eq_true, if_false] at hc
            try simp 
            apply he
            try simp 
            repeat' (first
              | ((with_reducible refine PreK.intro ?_ ?_); (next => (first | omega | (intros; first | omega | (refine ⟨by omega, ?_⟩; repeat (first | assumption | constructor)) | assumption))); intro _; try simp )
              | fail)
            refine LoopK.by (fun i : Nat => ⟨[(44, iv i), (43, iv ats.length), (42, ints ats), (1, .pt 1 1 0 0)], [(1, some ⟨2, [treeV par ats], 1, true⟩)]⟩) (fun i => ats.length - i) (fun i => i ≤ ats.length ∧ (if ((ats.drop i).any (atBad par.length)) = true then 1 else 0) = R) 0 ⟨Nat.zero_le _, hc⟩ (by simp) ?_
            clear hq he hr hc hi h3
            intro i Q2 ⟨hi, hc⟩ hq he hr
            try simp 
            refine CondK.intro (fun h3 => ?_) (fun h3 => ?_)
            · simp at h3
              rw [drop_cons ats i h3, List.any_cons] at hc
              have hw2 := swithin_c (el ats i) 0 ((par.length : Int) - 1)
              try simp [h3]
              repeat' (first
                | (refine CallX.pure (hw2) (by simp) (by simp) ?_; try simp [h3])
                | (refine CallK.intro (hw2) (by simp) (by simp) ?_; try simp [h3])
                | (refine CallG.intro (fun _ => hw2) (by simp) (by simp) ?_; try simp [h3])
                | ((with_reducible refine PreK.intro ?_ ?_); (next => (first | omega | (intros; first | omega | (refine ⟨by omega, ?_⟩; repeat (first | assumption | constructor)) | assumption))); intro _; try simp [h3])
                | fail)
              refine CondK.intro (fun h5 => ?_) (fun h5 => ?_)
              · have e : atBad par.length (el ats i) = true := by simp at h5; simp [atBad]; omega
                rw [e] at hc
                simp only [Bool.true_or, if_true] at hc
                try simp 
                apply hr
                try simp 
                exact hc
              · have e : atBad par.length (el ats i) = false := by simp at h5; simp [atBad]; omega
                rw [e] at hc
                simp only [Bool.false_or] at hc
                repeat (refine PreK.intro (by first | omega | (intros; first | omega | (refine ⟨by omega, ?_⟩; simp_all; done) | (simp_all; done) | (simp_all; omega))) fun _ => ?_; (try simp ))
                exact hq (i + 1) _ ⟨by omega, hc⟩ (by omega) (by simp)
            · simp at h3
              rw [List.drop_eq_nil_of_le (by omega)] at hc
              simp only [List.any_nil, Bool.false_eq_true, if_false] at hc
              try simp 
              apply he
              try simp 
              exact hc
end Go.Proofs.Ytnpkaemlidifgaa
end

section
/- Contracts: the errors of places and trees; a column; how many different readings. -/
namespace Go.Proofs.Ytnpkaemlidifgaa
open Go.Abs Go
set_option maxRecDepth 20000
set_option maxHeartbeats 2000000
attribute [local irreducible] PreK CondK CallK CallG CallX LoopK
attribute [local simp] avsEq avEq akind teq vkind vEq

theorem wid_le {t : List (List Int)} (h : Sm t) : wid t ≤ 1000 := h.el 0
theorem placed_c (t : List (List Int)) (ps : List Int) (h : Sm t) (hp : ps.length ≤ 1000) : CallP Try.prog 65 [rdsV t, ints ps] (iv (placedErr t ps)) := by
  refine C65 (by simp) ?_
  have hv := Validate_c t h
  have hwl := wid_le h
  generalize hR : placedErr t ps = R
  unfold placedErr at hR
  simp [A65]
  try simp 
  repeat' (first
    | (refine CallX.pure (hv) (by simp) (by simp) ?_; try simp )
    | (refine CallK.intro (hv) (by simp) (by simp) ?_; try simp )
    | (refine CallG.intro (fun _ => hv) (by simp) (by simp) ?_; try simp )
    | ((with_reducible refine PreK.intro ?_ ?_); (next => (first | omega | (intros; first | omega | (refine ⟨by omega, ?_⟩; repeat (first | assumption | constructor)) | assumption))); intro _; try simp )
    | fail)
  refine CondK.intro (fun h1 => ?_) (fun h1 => ?_)
  · simp at h1
    rw [if_pos h1] at hR
    try simp 
    exact hR
  · simp at h1
    have e0 : 0 < t.length := (vErr_zero h1).pos
    rw [if_neg (by simpa using h1)] at hR
    try simp 
    refine LoopK.by (fun i : Nat => ⟨[(15, iv i), (14, iv ps.length), (13, ints ps), (0, rdsV t)], []⟩) (fun i => ps.length - i) (fun i => i ≤ ps.length ∧ (if ((ps.drop i).any (noPlace t)) = true then 4 else 0) = R) 0 ⟨Nat.zero_le _, hR⟩ (by simp) ?_
    intro i Q' ⟨hi, hc⟩ hq he hr
    try simp 
    refine CondK.intro (fun h3 => ?_) (fun h3 => ?_)
    · simp at h3
      rw [drop_cons ps i h3, List.any_cons] at hc
      have hw2 := swithin_c (el ps i) 0 ((wid t : Int) - 1)
      unfold wid at hw2 hwl
      try simp [h3, e0]
      repeat' (first
        | (refine CallX.pure (hw2) (by simp) (by simp) ?_; try simp [h3, e0])
        | (refine CallK.intro (hw2) (by simp) (by simp) ?_; try simp [h3, e0])
        | (refine CallG.intro (fun _ => hw2) (by simp) (by simp) ?_; try simp [h3, e0])
        | ((with_reducible refine PreK.intro ?_ ?_); (next => (first | omega | (intros; first | omega | (refine ⟨by omega, ?_⟩; repeat (first | assumption | constructor)) | assumption))); intro _; try simp [h3, e0])
        | fail)
      refine CondK.intro (fun h5 => ?_) (fun h5 => ?_)
      · have e : noPlace t (el ps i) = true := by simp at h5; unfold noPlace wid; simp; omega
        rw [e] at hc
        simp only [Bool.true_or, if_true] at hc
        try simp 
        apply hr
        try simp 
        exact hc
      · have e : noPlace t (el ps i) = false := by simp at h5; unfold noPlace wid; simp; omega
        rw [e] at hc
        simp only [Bool.false_or] at hc
        repeat (refine PreK.intro (by first | omega | (intros; first | omega | (refine ⟨by omega, ?_⟩; simp_all; done) | (simp_all; done) | (simp_all; omega))) fun _ => ?_; (try simp ))
        exact hq (i + 1) _ ⟨by omega, hc⟩ (by omega) (by simp)
    · simp at h3
      rw [List.drop_eq_nil_of_le (by omega)] at hc
      simp only [List.any_nil, Bool.false_eq_true, if_false] at hc
      try simp 
      apply he
      try simp 
      exact hc
theorem rplaced_c (t : List (List Int)) (p : Int) (h : Sm t) : CallP Try.prog 63 [rdsV t, iv p] (iv (placedErr t [p])) := by
  refine C63 (by simp) ?_
  have hv := rValidate_c t h
  have hwl := wid_le h
  generalize hR : placedErr t [p] = R
  unfold placedErr at hR
  simp [A63]
  try simp 
  repeat' (first
    | (refine CallX.pure (hv) (by simp) (by simp) ?_; try simp )
    | (refine CallK.intro (hv) (by simp) (by simp) ?_; try simp )
    | (refine CallG.intro (fun _ => hv) (by simp) (by simp) ?_; try simp )
    | ((with_reducible refine PreK.intro ?_ ?_); (next => (first | omega | (intros; first | omega | (refine ⟨by omega, ?_⟩; repeat (first | assumption | constructor)) | assumption))); intro _; try simp )
    | fail)
  refine CondK.intro (fun h1 => ?_) (fun h1 => ?_)
  · simp at h1
    rw [if_pos h1] at hR
    try simp 
    exact hR
  · simp at h1
    have e0 : 0 < t.length := (vErr_zero h1).pos
    rw [if_neg (by simpa using h1)] at hR
    have hw2 := rwithin_c p 0 ((wid t : Int) - 1)
    unfold wid at hw2 hwl
    try simp [e0]
    repeat' (first
      | (refine CallX.pure (hw2) (by simp) (by simp) ?_; try simp [e0])
      | (refine CallK.intro (hw2) (by simp) (by simp) ?_; try simp [e0])
      | (refine CallG.intro (fun _ => hw2) (by simp) (by simp) ?_; try simp [e0])
      | ((with_reducible refine PreK.intro ?_ ?_); (next => (first | omega | (intros; first | omega | (refine ⟨by omega, ?_⟩; repeat (first | assumption | constructor)) | assumption))); intro _; try simp [e0])
      | fail)
    refine CondK.intro (fun h5 => ?_) (fun h5 => ?_)
    · have e : noPlace t p = true := by simp at h5; unfold noPlace wid; simp; omega
      simp only [List.any_cons, List.any_nil, e, Bool.true_or, if_true] at hR
      try simp 
      exact hR
    · have e : noPlace t p = false := by simp at h5; unfold noPlace wid; simp; omega
      simp only [List.any_cons, List.any_nil, e, Bool.false_or, Bool.false_eq_true, if_false] at hR
      try simp 
      exact hR
def copyErr (t : List (List Int)) (i : Int) : Int := if vErr t ≠ 0 then vErr t else if (decide (0 ≤ i) && decide (i ≤ (t.length : Int) - 1)) then 0 else 4
def treedErr (t : List (List Int)) (par ats : List Int) : Int := if vErr t ≠ 0 then vErr t else if treeErr par ats ≠ 0 then treeErr par ats else if ats.length ≠ t.length then 9 else 0
def fitsErr (t : List (List Int)) (par ats ps : List Int) : Int := if treedErr t par ats ≠ 0 then treedErr t par ats else placedErr t ps
theorem fits_c (t : List (List Int)) (par ats ps : List Int) (h : Sm t) (hp : par.length ≤ 1000) (ha : ats.length ≤ 1000) (hps : ps.length ≤ 1000) : CallP Try.prog 59 [rdsV t, treeV par ats, ints ps] (iv (fitsErr t par ats ps)) := by
  refine C59 (by simp) ?_
  have hv := Validate_c t h
  have ht := ValidateTree_c par ats hp ha
  have hpl := placed_c t ps h hps
  have hn := h.num
  generalize hR : fitsErr t par ats ps = R
  unfold fitsErr at hR
  simp [A59]
  try simp 
  repeat' (first
    | (refine CallX.pure (hv) (by simp) (by simp) ?_; try simp )
    | (refine CallK.intro (hv) (by simp) (by simp) ?_; try simp )
    | (refine CallG.intro (fun _ => hv) (by simp) (by simp) ?_; try simp )
    | ((with_reducible refine PreK.intro ?_ ?_); (next => (first | omega | (intros; first | omega | (refine ⟨by omega, ?_⟩; repeat (first | assumption | constructor)) | assumption))); intro _; try simp )
    | fail)
  refine CondK.intro (fun h1 => ?_) (fun h1 => ?_)
  · simp at h1
    have e : treedErr t par ats = vErr t := if_pos h1
    rw [e, if_pos h1] at hR
    try simp 
    exact hR
  · simp at h1
    try simp 
    repeat' (first
      | (refine CallX.pure (ht) (by simp) (by simp) ?_; try simp )
      | (refine CallK.intro (ht) (by simp) (by simp) ?_; try simp )
      | (refine CallG.intro (fun _ => ht) (by simp) (by simp) ?_; try simp )
      | ((with_reducible refine PreK.intro ?_ ?_); (next => (first | omega | (intros; first | omega | (refine ⟨by omega, ?_⟩; repeat (first | assumption | constructor)) | assumption))); intro _; try simp )
      | fail)
    refine CondK.intro (fun h2 => ?_) (fun h2 => ?_)
    · simp at h2
      have e : treedErr t par ats = treeErr par ats := by unfold treedErr; rw [if_neg (by simpa using h1), if_pos h2]
      rw [e, if_pos h2] at hR
      try simp 
      exact hR
    · simp at h2
      try simp 
      repeat' (first
        | ((with_reducible refine PreK.intro ?_ ?_); (next => (first | omega | (intros; first | omega | (refine ⟨by omega, ?_⟩; repeat (first | assumption | constructor)) | assumption))); intro _; try simp )
        | fail)
      refine CondK.intro (fun h3 => ?_) (fun h3 => ?_)
      · have e : treedErr t par ats = 9 := by unfold treedErr; rw [if_neg (by simpa using h1), if_neg (by simpa using h2), if_pos (by simp at h3; omega)]
        rw [e, if_pos (by decide)] at hR
        try simp 
        exact hR
      · have e : treedErr t par ats = 0 := by unfold treedErr; rw [if_neg (by simpa using h1), if_neg (by simpa using h2), if_neg (by simp at h3; omega)]
        rw [e, if_neg (by decide)] at hR
        try simp 
        refine CallX.pure (by simpa using hpl) (by simp) (by simp) ?_
        try simp 
        exact hR
/-! ### columns -/
theorem column_c (t : List (List Int)) (p : Nat) (hp : p < wid t) (hr : Rds t) : CallP Try.prog 67 [rdsV t, iv p] (ints (colM t p)) := by
  refine C67 (by simp) ?_
  have hn := hr.num
  generalize hR : colM t p = R
  simp [A67]
  refine LoopK.by (ι := Nat × Nat × List Int) (fun x => ⟨[(10, iv x.1), (9, iv t.length), (8, rdsV t), (1, iv p), (5, .sl 5 x.2.1 0 x.2.2.length)], [(5, some ⟨1, x.2.2.map iv, x.2.1, false⟩)]⟩) (fun x => t.length - x.1)
    (fun x => x.1 ≤ t.length ∧ x.2.2 ++ colM (t.drop x.1) p = R) (0, 1, []) ⟨Nat.zero_le _, by simpa using hR⟩ (by simp) ?_
  intro ⟨i, v, acc⟩ Q' ⟨hi, hc⟩ hq he hr'
  dsimp only at hi hc
  have hcl := congrArg List.length hc
  simp only [List.length_append, ← hR, colM_len, List.length_drop] at hcl
  try simp 
  refine CondK.intro (fun h1 => ?_) (fun h1 => ?_)
  · simp at h1
    have hrow := hr.row h1
    rw [drop_cons t i h1, colM, List.map_cons, ← colM] at hc
    have hpl : p < (el t i).length := by omega
    repeat (refine PreK.intro (by first | omega | (intros; first | omega | (refine ⟨by omega, ?_⟩; simp_all; done) | (simp_all; done) | (simp_all; omega))) fun _ => ?_; (try simp [h1, hpl]))
    exact hq (i + 1, v + 1, acc ++ [el (el t i) p]) _ ⟨by dsimp only; omega, by simpa using hc⟩ (by dsimp only; omega) (by simp)
  · simp at h1
    rw [List.drop_eq_nil_of_le (by omega)] at hc
    simp only [colM, List.map_nil, List.append_nil] at hc
    subst hc
    try simp 
    apply he
    try simp 
end Go.Proofs.Ytnpkaemlidifgaa
end

section
/- Lists of rows: made immutable, and the boxes that they name. -/
namespace Go.Proofs.Ytnpkaemlidifgaa
open Go.Abs Go
attribute [local simp] avsEq avEq akind teq vkind vEq

theorem refsL_app : ∀ x y : List AV, AV.refsL (x ++ y) = AV.refsL x ++ AV.refsL y
  | [], y => rfl
  | a :: x, y => by simp [refsL_app x y]
theorem refsL_rep (e : List AV) (f : Bool) : ∀ n : Nat, AV.refsL (List.replicate n (.seq 1 e f)) = []
  | 0 => rfl
  | n + 1 => by rw [List.replicate_succ, AV.refsL, refsL_rep e f n]; rfl
end Go.Proofs.Ytnpkaemlidifgaa
end

section
/- Functions of the cut as the value layer reads them. (written by gen.py) -/
set_option maxRecDepth 20000
namespace Go.Proofs.Ytnpkaemlidifgaa
open Go.Abs Go

def A14 : ACode :=
  (.seq (.reg [] [⟨some 6, (.assign (.const (.bool false))), 4, none⟩])
    (.seq (.seq (.reg [] [⟨some 23, (.move (.tmp 0)), 22, none⟩,
      ⟨some 24, (.call ⟨(.value (.func 18)), #[(.tmp 23)], #[22]⟩), 4, none⟩,
      ⟨some 25, (.move (.tmp 24)), 4, none⟩,
      ⟨some 26, (.move (.tmp 2)), 23, some (25, false)⟩,
      ⟨some 27, (.call ⟨(.builtin .len), #[(.tmp 26)], #[23]⟩), 3, some (25, false)⟩,
      ⟨some 28, (.binOp .gtr 3 (.tmp 27) (.const (.int .i64 50)) 3), 4, some (25, false)⟩,
      ⟨some 29, (.pick (.tmp 25) (.const (.bool true)) (.tmp 28)), 4, none⟩])
    (.cond (.tmp 29)
    (.seq (.reg [] [⟨some 30, (.call ⟨(.value (.func 20)), #[], #[]⟩), 4, none⟩,
      ⟨some 6, (.assign (.tmp 30)), 4, none⟩])
    .ret)
    .skip))
    (.seq (.reg [] [⟨some 31, (.move (.tmp 0)), 22, none⟩,
      ⟨some 32, (.call ⟨(.value (.func 53)), #[(.tmp 31)], #[22]⟩), 22, none⟩,
      ⟨some 7, (.assign (.tmp 32)), 22, none⟩])
    (.seq (.reg [] [⟨some 34, (.move (.tmp 7)), 22, none⟩,
      ⟨some 35, (.move (.tmp 1)), 3, none⟩,
      ⟨some 36, (.move (.tmp 2)), 23, none⟩,
      ⟨some 37, (.call ⟨(.value (.func 54)), #[(.tmp 34), (.tmp 35), (.tmp 36)], #[22, 3, 23]⟩), 55, none⟩,
      ⟨some 33, (.move (.tmp 37)), 55, none⟩,
      ⟨some 38, (.extract (.tmp 33) 0), 22, none⟩,
      ⟨some 39, (.extract (.tmp 33) 1), 29, none⟩,
      ⟨some 8, (.assign (.tmp 38)), 22, none⟩,
      ⟨some 9, (.assign (.tmp 39)), 29, none⟩])
    (.seq (.reg [] [⟨some 41, (.move (.tmp 0)), 22, none⟩,
      ⟨some 42, (.move (.tmp 1)), 3, none⟩,
      ⟨some 43, (.move (.tmp 2)), 23, none⟩,
      ⟨some 44, (.call ⟨(.value (.func 55)), #[(.tmp 41), (.tmp 42), (.tmp 43)], #[22, 3, 23]⟩), 55, none⟩,
      ⟨some 40, (.move (.tmp 44)), 55, none⟩,
      ⟨some 45, (.extract (.tmp 40) 0), 22, none⟩,
      ⟨some 46, (.extract (.tmp 40) 1), 29, none⟩,
      ⟨some 10, (.assign (.tmp 45)), 22, none⟩,
      ⟨some 11, (.assign (.tmp 46)), 29, none⟩])
    (.seq (.seq (.reg [] [⟨some 47, (.move (.tmp 8)), 22, none⟩,
      ⟨some 48, (.move (.tmp 10)), 22, none⟩,
      ⟨some 49, (.call ⟨(.value (.func 46)), #[(.tmp 47), (.tmp 48)], #[22, 22]⟩), 4, none⟩,
      ⟨some 50, (.unOp .not 4 (.tmp 49)), 4, none⟩,
      ⟨some 51, (.move (.tmp 50)), 4, none⟩,
      ⟨some 52, (.move (.tmp 9)), 29, some (51, false)⟩,
      ⟨some 53, (.move (.tmp 11)), 29, some (51, false)⟩,
      ⟨some 54, (.binOp .neq 29 (.tmp 52) (.tmp 53) 29), 4, some (51, false)⟩,
      ⟨some 55, (.pick (.tmp 51) (.const (.bool true)) (.tmp 54)), 4, none⟩])
    (.cond (.tmp 55)
    (.seq (.reg [] [⟨some 6, (.assign (.const (.bool false))), 4, none⟩])
    .ret)
    .skip))
    (.seq (.seq (.reg [] [⟨some 56, (.move (.tmp 9)), 29, none⟩,
      ⟨some 57, (.binOp .eql 29 (.tmp 56) (.const (.int .i64 0)) 29), 4, none⟩])
    (.cond (.tmp 57)
    (.seq (.reg [] [⟨some 59, (.move (.tmp 0)), 22, none⟩,
      ⟨some 60, (.call ⟨(.value (.func 39)), #[(.tmp 59)], #[22]⟩), 51, none⟩,
      ⟨some 58, (.move (.tmp 60)), 51, none⟩,
      ⟨some 61, (.extract (.tmp 58) 0), 50, none⟩,
      ⟨some 62, (.extract (.tmp 58) 1), 29, none⟩,
      ⟨some 12, (.assign (.tmp 61)), 50, none⟩,
      ⟨some 13, (.assign (.tmp 62)), 29, none⟩])
    (.seq (.reg [] [⟨some 64, (.move (.tmp 8)), 22, none⟩,
      ⟨some 65, (.call ⟨(.value (.func 39)), #[(.tmp 64)], #[22]⟩), 51, none⟩,
      ⟨some 63, (.move (.tmp 65)), 51, none⟩,
      ⟨some 66, (.extract (.tmp 63) 0), 50, none⟩,
      ⟨some 67, (.extract (.tmp 63) 1), 29, none⟩,
      ⟨some 14, (.assign (.tmp 66)), 50, none⟩,
      ⟨some 15, (.assign (.tmp 67)), 29, none⟩])
    (.seq (.seq (.reg [] [⟨some 68, (.move (.tmp 13)), 29, none⟩,
      ⟨some 69, (.binOp .neq 29 (.tmp 68) (.const (.int .i64 0)) 29), 4, none⟩,
      ⟨some 70, (.move (.tmp 69)), 4, none⟩,
      ⟨some 71, (.move (.tmp 15)), 29, some (70, false)⟩,
      ⟨some 72, (.binOp .neq 29 (.tmp 71) (.const (.int .i64 0)) 29), 4, some (70, false)⟩,
      ⟨some 73, (.pick (.tmp 70) (.const (.bool true)) (.tmp 72)), 4, none⟩,
      ⟨some 74, (.move (.tmp 73)), 4, none⟩,
      ⟨some 75, (.move (.tmp 12)), 50, some (74, false)⟩,
      ⟨some 76, (.move (.tmp 14)), 50, some (74, false)⟩,
      ⟨some 77, (.call ⟨(.value (.func 43)), #[(.tmp 75), (.tmp 76)], #[50, 50]⟩), 4, some (74, false)⟩,
      ⟨some 78, (.unOp .not 4 (.tmp 77)), 4, some (74, false)⟩,
      ⟨some 79, (.pick (.tmp 74) (.const (.bool true)) (.tmp 78)), 4, none⟩])
    (.cond (.tmp 79)
    (.seq (.reg [] [⟨some 6, (.assign (.const (.bool false))), 4, none⟩])
    .ret)
    .skip))
    (.seq (.reg [] [⟨some 16, (.assign (.const (.int .i64 0))), 3, none⟩])
    (.block 0 (.loop (.seq (.seq (.reg [] [⟨some 80, (.move (.tmp 16)), 3, none⟩,
      ⟨some 81, (.move (.tmp 0)), 22, none⟩,
      ⟨some 82, (.call ⟨(.builtin .len), #[(.tmp 81)], #[22]⟩), 3, none⟩,
      ⟨some 83, (.binOp .lss 3 (.tmp 80) (.tmp 82) 3), 4, none⟩])
    (.cond (.tmp 83)
    .skip
    (.exit 0)))
    (.seq (.block 1 (.seq (.reg [] [⟨some 87, (.move (.tmp 0)), 22, none⟩,
      ⟨some 88, (.move (.tmp 16)), 3, none⟩,
      ⟨some 89, (.call ⟨(.value (.func 29)), #[(.tmp 87), (.const (.int .i64 0)), (.tmp 88)], #[22, 3, 3]⟩), 32, none⟩,
      ⟨some 86, (.move (.tmp 89)), 32, none⟩,
      ⟨some 90, (.extract (.tmp 86) 0), 3, none⟩,
      ⟨some 91, (.extract (.tmp 86) 1), 29, none⟩,
      ⟨some 17, (.assign (.tmp 90)), 3, none⟩,
      ⟨some 18, (.assign (.tmp 91)), 29, none⟩])
    (.seq (.reg [] [⟨some 93, (.move (.tmp 8)), 22, none⟩,
      ⟨some 94, (.move (.tmp 16)), 3, none⟩,
      ⟨some 95, (.call ⟨(.value (.func 29)), #[(.tmp 93), (.const (.int .i64 0)), (.tmp 94)], #[22, 3, 3]⟩), 32, none⟩,
      ⟨some 92, (.move (.tmp 95)), 32, none⟩,
      ⟨some 96, (.extract (.tmp 92) 0), 3, none⟩,
      ⟨some 97, (.extract (.tmp 92) 1), 29, none⟩,
      ⟨some 19, (.assign (.tmp 96)), 3, none⟩,
      ⟨some 20, (.assign (.tmp 97)), 29, none⟩])
    (.seq (.reg [] [⟨some 98, (.move (.tmp 18)), 29, none⟩,
      ⟨some 99, (.binOp .neq 29 (.tmp 98) (.const (.int .i64 0)) 29), 4, none⟩,
      ⟨some 100, (.move (.tmp 99)), 4, none⟩,
      ⟨some 101, (.move (.tmp 20)), 29, some (100, false)⟩,
      ⟨some 102, (.binOp .neq 29 (.tmp 101) (.const (.int .i64 0)) 29), 4, some (100, false)⟩,
      ⟨some 103, (.pick (.tmp 100) (.const (.bool true)) (.tmp 102)), 4, none⟩,
      ⟨some 104, (.move (.tmp 103)), 4, none⟩,
      ⟨some 105, (.move (.tmp 17)), 3, some (104, false)⟩,
      ⟨some 106, (.move (.tmp 19)), 3, some (104, false)⟩,
      ⟨some 107, (.binOp .neq 3 (.tmp 105) (.tmp 106) 3), 4, some (104, false)⟩,
      ⟨some 108, (.pick (.tmp 104) (.const (.bool true)) (.tmp 107)), 4, none⟩])
    (.cond (.tmp 108)
    (.seq (.reg [] [⟨some 6, (.assign (.const (.bool false))), 4, none⟩])
    .ret)
    .skip)))))
    (.reg [] [⟨some 84, (.move (.tmp 16)), 3, none⟩,
      ⟨some 85, (.binOp .add 3 (.tmp 84) (.const (.int .i64 1)) 3), 3, none⟩,
      ⟨some 16, (.assign (.tmp 85)), 3, none⟩])))))))))
    .skip))
    (.seq (.seq (.reg [] [⟨some 21, (.assign (.const (.int .i64 0))), 3, none⟩])
    (.block 2 (.loop (.seq (.seq (.reg [] [⟨some 109, (.move (.tmp 21)), 3, none⟩,
      ⟨some 110, (.move (.tmp 8)), 22, none⟩,
      ⟨some 111, (.call ⟨(.builtin .len), #[(.tmp 110)], #[22]⟩), 3, none⟩,
      ⟨some 112, (.binOp .lss 3 (.tmp 109) (.tmp 111) 3), 4, none⟩])
    (.cond (.tmp 112)
    .skip
    (.exit 2)))
    (.seq (.block 3 (.seq (.reg [] [⟨some 22, (.assign (.const (.int .i64 0))), 3, none⟩])
    (.block 4 (.loop (.seq (.seq (.reg [] [⟨some 115, (.move (.tmp 22)), 3, none⟩,
      ⟨some 116, (.move (.tmp 8)), 22, none⟩,
      ⟨some 117, (.move (.tmp 21)), 3, none⟩,
      ⟨some 118, (.indexAddr 22 (.tmp 116) (.tmp 117)), 0, none⟩,
      ⟨some 119, (.load 23 (.tmp 118)), 23, none⟩,
      ⟨some 120, (.call ⟨(.builtin .len), #[(.tmp 119)], #[23]⟩), 3, none⟩,
      ⟨some 121, (.binOp .lss 3 (.tmp 115) (.tmp 120) 3), 4, none⟩])
    (.cond (.tmp 121)
    .skip
    (.exit 4)))
    (.seq (.block 5 (.reg [] [⟨some 124, (.move (.tmp 8)), 22, none⟩,
      ⟨some 125, (.move (.tmp 21)), 3, none⟩,
      ⟨some 126, (.indexAddr 22 (.tmp 124) (.tmp 125)), 0, none⟩,
      ⟨some 127, (.load 23 (.tmp 126)), 23, none⟩,
      ⟨some 128, (.move (.tmp 22)), 3, none⟩,
      ⟨some 129, (.indexAddr 23 (.tmp 127) (.tmp 128)), 0, none⟩,
      ⟨none, (.store 3 (.tmp 129) (.const (.int .i64 (-1)))), 0, none⟩]))
    (.reg [] [⟨some 122, (.move (.tmp 22)), 3, none⟩,
      ⟨some 123, (.binOp .add 3 (.tmp 122) (.const (.int .i64 1)) 3), 3, none⟩,
      ⟨some 22, (.assign (.tmp 123)), 3, none⟩])))))))
    (.reg [] [⟨some 113, (.move (.tmp 21)), 3, none⟩,
      ⟨some 114, (.binOp .add 3 (.tmp 113) (.const (.int .i64 1)) 3), 3, none⟩,
      ⟨some 21, (.assign (.tmp 114)), 3, none⟩]))))))
    (.seq (.reg [] [⟨some 130, (.move (.tmp 7)), 22, none⟩,
      ⟨some 131, (.move (.tmp 0)), 22, none⟩,
      ⟨some 132, (.call ⟨(.value (.func 46)), #[(.tmp 130), (.tmp 131)], #[22, 22]⟩), 4, none⟩,
      ⟨some 133, (.move (.tmp 132)), 4, none⟩,
      ⟨some 134, (.call ⟨(.value (.func 20)), #[], #[]⟩), 4, some (133, true)⟩,
      ⟨some 135, (.pick (.tmp 133) (.tmp 134) (.const (.bool false))), 4, none⟩,
      ⟨some 6, (.assign (.tmp 135)), 4, none⟩])
    .ret)))))))))
theorem C14 {args : List AV} {r : AV} (hn : args.length ≤ 136) (h : vc Try.prog T [] A14 (Fin T [(.tmp 6)] r) ⟨envOf 0 args, []⟩) : CallP Try.prog 14 args r :=
  callP_of tok mixed Try.func14 (by kernel_rfl) (by kernel_rfl) (by kernel_rfl : Try.f14.ntmps = 136) (by kernel_rfl : Try.f14.body.bind (strip 136 (fun _ => [])) = some A14) hn h
def A18 : ACode :=
  (.seq (.reg [] [⟨some 2, (.assign (.const (.bool false))), 4, none⟩])
    (.seq (.seq (.reg [] [⟨some 3, (.assign (.const (.int .i64 0))), 3, none⟩])
    (.block 0 (.loop (.seq (.seq (.reg [] [⟨some 4, (.move (.tmp 3)), 3, none⟩,
      ⟨some 5, (.move (.tmp 0)), 22, none⟩,
      ⟨some 6, (.call ⟨(.builtin .len), #[(.tmp 5)], #[22]⟩), 3, none⟩,
      ⟨some 7, (.binOp .lss 3 (.tmp 4) (.tmp 6) 3), 4, none⟩])
    (.cond (.tmp 7)
    .skip
    (.exit 0)))
    (.seq (.block 1 (.seq (.reg [] [⟨some 10, (.move (.tmp 0)), 22, none⟩,
      ⟨some 11, (.move (.tmp 3)), 3, none⟩,
      ⟨some 12, (.indexAddr 22 (.tmp 10) (.tmp 11)), 0, none⟩,
      ⟨some 13, (.load 23 (.tmp 12)), 23, none⟩,
      ⟨some 14, (.call ⟨(.builtin .len), #[(.tmp 13)], #[23]⟩), 3, none⟩,
      ⟨some 15, (.binOp .gtr 3 (.tmp 14) (.const (.int .i64 50)) 3), 4, none⟩])
    (.cond (.tmp 15)
    (.seq (.reg [] [⟨some 2, (.assign (.const (.bool true))), 4, none⟩])
    .ret)
    .skip)))
    (.reg [] [⟨some 8, (.move (.tmp 3)), 3, none⟩,
      ⟨some 9, (.binOp .add 3 (.tmp 8) (.const (.int .i64 1)) 3), 3, none⟩,
      ⟨some 3, (.assign (.tmp 9)), 3, none⟩]))))))
    (.seq (.reg [] [⟨some 16, (.move (.tmp 0)), 22, none⟩,
      ⟨some 17, (.call ⟨(.builtin .len), #[(.tmp 16)], #[22]⟩), 3, none⟩,
      ⟨some 18, (.binOp .gtr 3 (.tmp 17) (.const (.int .i64 50)) 3), 4, none⟩,
      ⟨some 2, (.assign (.tmp 18)), 4, none⟩])
    .ret)))
theorem C18 {args : List AV} {r : AV} (hn : args.length ≤ 19) (h : vc Try.prog T [] A18 (Fin T [(.tmp 2)] r) ⟨envOf 0 args, []⟩) : CallP Try.prog 18 args r :=
  callP_of tok mixed Try.func18 (by kernel_rfl) (by kernel_rfl) (by kernel_rfl : Try.f18.ntmps = 19) (by kernel_rfl : Try.f18.body.bind (strip 19 (fun _ => [])) = some A18) hn h
def A20 : ACode :=
  (.seq (.reg [] [⟨some 0, (.assign (.const (.bool false))), 4, none⟩])
    (.seq (.reg [] [⟨some 11, (.buildSlice 23 2 #[(0, (.const (.int .i64 0))), (1, (.const (.int .i64 0)))]), 23, none⟩,
      ⟨some 12, (.buildSlice 23 2 #[(0, (.const (.int .i64 0))), (1, (.const (.int .i64 1)))]), 23, none⟩,
      ⟨some 13, (.buildSlice 23 2 #[(0, (.const (.int .i64 1))), (1, (.const (.int .i64 0)))]), 23, none⟩,
      ⟨some 14, (.buildSlice 23 2 #[(0, (.const (.int .i64 1))), (1, (.const (.int .i64 1)))]), 23, none⟩,
      ⟨some 15, (.buildSlice 22 4 #[(0, (.tmp 11)), (1, (.tmp 12)), (2, (.tmp 13)), (3, (.tmp 14))]), 22, none⟩,
      ⟨some 16, (.call ⟨(.value (.func 37)), #[(.tmp 15), (.const (.int .i64 0)), (.const (.int .i64 1))], #[22, 3, 3]⟩), 48, none⟩,
      ⟨some 10, (.move (.tmp 16)), 48, none⟩,
      ⟨some 17, (.extract (.tmp 10) 0), 4, none⟩,
      ⟨some 18, (.extract (.tmp 10) 1), 29, none⟩,
      ⟨some 1, (.assign (.tmp 17)), 4, none⟩,
      ⟨some 2, (.assign (.tmp 18)), 29, none⟩])
    (.seq (.reg [] [⟨some 20, (.buildSlice 23 2 #[(0, (.const (.int .i64 0))), (1, (.const (.int .i64 0)))]), 23, none⟩,
      ⟨some 21, (.buildSlice 23 2 #[(0, (.const (.int .i64 0))), (1, (.const (.int .i64 1)))]), 23, none⟩,
      ⟨some 22, (.buildSlice 23 2 #[(0, (.const (.int .i64 1))), (1, (.const (.int .i64 0)))]), 23, none⟩,
      ⟨some 23, (.buildSlice 22 3 #[(0, (.tmp 20)), (1, (.tmp 21)), (2, (.tmp 22))]), 22, none⟩,
      ⟨some 24, (.call ⟨(.value (.func 37)), #[(.tmp 23), (.const (.int .i64 0)), (.const (.int .i64 1))], #[22, 3, 3]⟩), 48, none⟩,
      ⟨some 19, (.move (.tmp 24)), 48, none⟩,
      ⟨some 25, (.extract (.tmp 19) 0), 4, none⟩,
      ⟨some 26, (.extract (.tmp 19) 1), 29, none⟩,
      ⟨some 3, (.assign (.tmp 25)), 4, none⟩,
      ⟨some 4, (.assign (.tmp 26)), 29, none⟩])
    (.seq (.reg [] [⟨some 28, (.buildSlice 23 1 #[(0, (.const (.int .i64 0)))]), 23, none⟩,
      ⟨some 29, (.buildSlice 23 1 #[(0, (.const (.int .i64 1)))]), 23, none⟩,
      ⟨some 30, (.buildSlice 22 2 #[(0, (.tmp 28)), (1, (.tmp 29))]), 22, none⟩,
      ⟨some 31, (.buildSlice 23 3 #[(0, (.const (.int .i64 (-1)))), (1, (.const (.int .i64 0))), (2, (.const (.int .i64 0)))]), 23, none⟩,
      ⟨some 32, (.buildSlice 23 2 #[(0, (.const (.int .i64 1))), (1, (.const (.int .i64 2)))]), 23, none⟩,
      ⟨some 33, (.build 25 #[(0, (.tmp 31)), (1, (.tmp 32))]), 25, none⟩,
      ⟨some 34, (.call ⟨(.value (.func 21)), #[(.tmp 30), (.tmp 33), (.const (.int .i64 0))], #[22, 25, 3]⟩), 30, none⟩,
      ⟨some 27, (.move (.tmp 34)), 30, none⟩,
      ⟨some 35, (.extract (.tmp 27) 0), 3, none⟩,
      ⟨some 36, (.extract (.tmp 27) 1), 4, none⟩,
      ⟨some 37, (.extract (.tmp 27) 2), 29, none⟩,
      ⟨some 5, (.assign (.tmp 35)), 3, none⟩,
      ⟨some 6, (.assign (.tmp 36)), 4, none⟩,
      ⟨some 7, (.assign (.tmp 37)), 29, none⟩])
    (.seq (.reg [] [⟨some 39, (.buildSlice 23 1 #[(0, (.const (.int .i64 0)))]), 23, none⟩,
      ⟨some 40, (.buildSlice 23 1 #[(0, (.const (.int .i64 1)))]), 23, none⟩,
      ⟨some 41, (.buildSlice 23 1 #[(0, (.const (.int .i64 2)))]), 23, none⟩,
      ⟨some 42, (.buildSlice 22 3 #[(0, (.tmp 39)), (1, (.tmp 40)), (2, (.tmp 41))]), 22, none⟩,
      ⟨some 43, (.call ⟨(.value (.func 23)), #[(.tmp 42), (.const (.int .i64 0))], #[22, 3]⟩), 32, none⟩,
      ⟨some 38, (.move (.tmp 43)), 32, none⟩,
      ⟨some 44, (.extract (.tmp 38) 0), 3, none⟩,
      ⟨some 45, (.extract (.tmp 38) 1), 29, none⟩,
      ⟨some 8, (.assign (.tmp 44)), 3, none⟩,
      ⟨some 9, (.assign (.tmp 45)), 29, none⟩])
    (.seq (.reg [] [⟨some 46, (.move (.tmp 2)), 29, none⟩,
      ⟨some 47, (.binOp .eql 29 (.tmp 46) (.const (.int .i64 0)) 29), 4, none⟩,
      ⟨some 48, (.move (.tmp 47)), 4, none⟩,
      ⟨some 49, (.move (.tmp 1)), 4, some (48, true)⟩,
      ⟨some 50, (.pick (.tmp 48) (.tmp 49) (.const (.bool false))), 4, none⟩,
      ⟨some 51, (.move (.tmp 50)), 4, none⟩,
      ⟨some 52, (.move (.tmp 4)), 29, some (51, true)⟩,
      ⟨some 53, (.binOp .eql 29 (.tmp 52) (.const (.int .i64 0)) 29), 4, some (51, true)⟩,
      ⟨some 54, (.pick (.tmp 51) (.tmp 53) (.const (.bool false))), 4, none⟩,
      ⟨some 55, (.move (.tmp 54)), 4, none⟩,
      ⟨some 56, (.move (.tmp 3)), 4, some (55, true)⟩,
      ⟨some 57, (.unOp .not 4 (.tmp 56)), 4, some (55, true)⟩,
      ⟨some 58, (.pick (.tmp 55) (.tmp 57) (.const (.bool false))), 4, none⟩,
      ⟨some 59, (.move (.tmp 58)), 4, none⟩,
      ⟨some 60, (.move (.tmp 7)), 29, some (59, true)⟩,
      ⟨some 61, (.binOp .eql 29 (.tmp 60) (.const (.int .i64 0)) 29), 4, some (59, true)⟩,
      ⟨some 62, (.pick (.tmp 59) (.tmp 61) (.const (.bool false))), 4, none⟩,
      ⟨some 63, (.move (.tmp 62)), 4, none⟩,
      ⟨some 64, (.move (.tmp 6)), 4, some (63, true)⟩,
      ⟨some 65, (.pick (.tmp 63) (.tmp 64) (.const (.bool false))), 4, none⟩,
      ⟨some 66, (.move (.tmp 65)), 4, none⟩,
      ⟨some 67, (.move (.tmp 5)), 3, some (66, true)⟩,
      ⟨some 68, (.binOp .eql 3 (.tmp 67) (.const (.int .i64 1)) 3), 4, some (66, true)⟩,
      ⟨some 69, (.pick (.tmp 66) (.tmp 68) (.const (.bool false))), 4, none⟩,
      ⟨some 70, (.move (.tmp 69)), 4, none⟩,
      ⟨some 71, (.move (.tmp 9)), 29, some (70, true)⟩,
      ⟨some 72, (.binOp .eql 29 (.tmp 71) (.const (.int .i64 0)) 29), 4, some (70, true)⟩,
      ⟨some 73, (.pick (.tmp 70) (.tmp 72) (.const (.bool false))), 4, none⟩,
      ⟨some 74, (.move (.tmp 73)), 4, none⟩,
      ⟨some 75, (.move (.tmp 8)), 3, some (74, true)⟩,
      ⟨some 76, (.binOp .eql 3 (.tmp 75) (.const (.int .i64 3)) 3), 4, some (74, true)⟩,
      ⟨some 77, (.pick (.tmp 74) (.tmp 76) (.const (.bool false))), 4, none⟩,
      ⟨some 0, (.assign (.tmp 77)), 4, none⟩])
    .ret))))))
theorem C20 {args : List AV} {r : AV} (hn : args.length ≤ 78) (h : vc Try.prog T [] A20 (Fin T [(.tmp 0)] r) ⟨envOf 0 args, []⟩) : CallP Try.prog 20 args r :=
  callP_of tok mixed Try.func20 (by kernel_rfl) (by kernel_rfl) (by kernel_rfl : Try.f20.ntmps = 78) (by kernel_rfl : Try.f20.body.bind (strip 78 (fun _ => [])) = some A20) hn h

end Go.Proofs.Ytnpkaemlidifgaa
end

section
/- Contracts: rows that are owned; a place less; the statement StemmaWithout. (drafted by mkstr.py) -/
namespace Go.Proofs.Ytnpkaemlidifgaa
open Go.Abs Go
set_option maxRecDepth 20000
set_option maxHeartbeats 2000000
attribute [local irreducible] PreK CondK CallK CallG CallX LoopK
attribute [local simp] avsEq avEq akind teq vkind vEq

theorem CM84 {args : List AV} {r : AV} {m' : List (Nat × Option Box)} (hn : args.length ≤ 30) (h : vc Try.prog T [] A84 (FinM T [(.tmp 2)] r m') ⟨envOf 0 args, []⟩) : CallM Try.prog 84 args r m' :=
  callM_of tok mixed Try.func84 (by kernel_rfl) (by kernel_rfl) (by kernel_rfl : Try.f84.ntmps = 30) (by kernel_rfl : Try.f84.body.bind (strip 30 (fun _ => [])) = some A84) hn h
/-- The rows that are owned: names and boxes. -/
def rowN (t : List (List Int)) (n : Nat) : List AV := (List.range n).map fun i => .sl (100 + i) 1 0 (el t i).length
def rowM (t : List (List Int)) (n : Nat) : List (Nat × Option Box) := (List.range n).map fun i => (100 + i, some ⟨1, (el t i).map iv, 1, false⟩)
theorem range_succ' (n : Nat) : List.range (n + 1) = List.range n ++ [n] := List.range_succ
theorem renL_app (f : Nat → Nat → Option (Nat × Nat)) : ∀ x y : List AV, renL f (x ++ y) = renL f x ++ renL f y
  | [], y => rfl
  | a :: x, y => by simp [renL_app f x y]
theorem renL_rep (f : Nat → Nat → Option (Nat × Nat)) (e : List AV) (b : Bool) : ∀ n : Nat, renL f (List.replicate n (.seq 1 e b)) = List.replicate n (.seq 1 e b)
  | 0 => rfl
  | n + 1 => by rw [List.replicate_succ, renL, renL_rep f e b n]; rfl
theorem copied_m (t : List (List Int)) (h1 : 1 ≤ t.length) (h6 : t.length ≤ 6) (hw : ∀ i, (el t i).length ≤ 1000) :
    CallM Try.prog 84 [rdsV t] (.sl 8 1 0 t.length) ((8, some ⟨1, rowN t t.length, 1, true⟩) :: rowM t t.length) := by
  refine CM84 (by simp) ?_
  simp [A84]
  try simp 
  repeat (refine PreK.intro (by first | omega | (intros; first | omega | (refine ⟨by omega, ?_⟩; simp_all; done) | (simp_all; done) | (simp_all; omega))) fun _ => ?_; (try simp ))
  refine LoopK.byR (ι := Nat) (fun i => ⟨[(11, iv i), (10, iv t.length), (9, rdsV t), (3, .sl 8 1 0 t.length)], (8, some ⟨1, rowN t i ++ List.replicate (t.length - i) (.seq 1 [] true), 1, true⟩) :: rowM t i⟩) (fun i => t.length - i) (fun i => i ≤ t.length) 0 (Nat.zero_le _) (by simp [rowN, rowM, leEls_refl, refsL_rep]) ?_
  intro i Q' hi hq he hr hfz
  by_cases h2 : i < t.length
  · have hw1 := hw i
    have hi6 : i = 0 ∨ i = 1 ∨ i = 2 ∨ i = 3 ∨ i = 4 ∨ i = 5 := by omega
    rcases hi6 with rfl | rfl | rfl | rfl | rfl | rfl
    · have hrep : List.replicate (t.length - 0) (AV.seq 1 [] true) = AV.seq 1 [] true :: List.replicate (t.length - 1) (AV.seq 1 [] true) := by
        rw [show t.length - 0 = (t.length - 1) + 1 by omega, List.replicate_succ]
      have hlt : 0 < 0 + (t.length - 1 + 1) := by omega
      have h2' : (0 : Int) < t.length := by omega
      have hs0 : (el t 0).length ≤ 1000 := hw1
      simp only [rowN, rowM, range_succ', List.range_zero, List.nil_append, List.map_append, List.map_cons, List.map_nil, List.cons_append]
      rw [hrep]
      try simp [h2, h2']
      repeat (refine PreK.intro (by first | omega | (intros; first | omega | (refine ⟨by omega, ?_⟩; simp_all; done) | (simp_all; done) | (simp_all; omega))) fun _ => ?_; (try simp [h2, h2']))
      refine CondK.intro (fun h3 => ?_) (fun h3 => ?_)
      · try simp [h2, h2']
        repeat (refine PreK.intro (by first | omega | (intros; first | omega | (refine ⟨by omega, ?_⟩; simp_all; done) | (simp_all; done) | (simp_all; omega))) fun _ => ?_; (try simp [h2, h2']))
        refine hq 1 [(20, 100)] _ (by omega) (by omega) ?_
        have hle1 : t.length - 1 = t.length - 1 := rfl
        simp [rowN, rowM, range_succ', leEls_refl, refsL_rep, refsL_app, renL_app, renL_rep]
        done
      · simp at h3
    · have hrep : List.replicate (t.length - 1) (AV.seq 1 [] true) = AV.seq 1 [] true :: List.replicate (t.length - 2) (AV.seq 1 [] true) := by
        rw [show t.length - 1 = (t.length - 2) + 1 by omega, List.replicate_succ]
      have hlt : 1 < 1 + (t.length - 2 + 1) := by omega
      have h2' : (1 : Int) < t.length := by omega
      have hs0 : (el t 1).length ≤ 1000 := hw1
      simp only [rowN, rowM, range_succ', List.range_zero, List.nil_append, List.map_append, List.map_cons, List.map_nil, List.cons_append]
      rw [hrep]
      try simp [h2, h2']
      repeat (refine PreK.intro (by first | omega | (intros; first | omega | (refine ⟨by omega, ?_⟩; simp_all; done) | (simp_all; done) | (simp_all; omega))) fun _ => ?_; (try simp [h2, h2']))
      refine CondK.intro (fun h3 => ?_) (fun h3 => ?_)
      · try simp [h2, h2']
        repeat (refine PreK.intro (by first | omega | (intros; first | omega | (refine ⟨by omega, ?_⟩; simp_all; done) | (simp_all; done) | (simp_all; omega))) fun _ => ?_; (try simp [h2, h2']))
        refine hq 2 [(20, 101)] _ (by omega) (by omega) ?_
        have hle1 : t.length - 2 = t.length - 2 := rfl
        simp [rowN, rowM, range_succ', leEls_refl, refsL_rep, refsL_app, renL_app, renL_rep]
        done
      · simp at h3
    · have hrep : List.replicate (t.length - 2) (AV.seq 1 [] true) = AV.seq 1 [] true :: List.replicate (t.length - 3) (AV.seq 1 [] true) := by
        rw [show t.length - 2 = (t.length - 3) + 1 by omega, List.replicate_succ]
      have hlt : 2 < 2 + (t.length - 3 + 1) := by omega
      have h2' : (2 : Int) < t.length := by omega
      have hs0 : (el t 2).length ≤ 1000 := hw1
      simp only [rowN, rowM, range_succ', List.range_zero, List.nil_append, List.map_append, List.map_cons, List.map_nil, List.cons_append]
      rw [hrep]
      try simp [h2, h2']
      repeat (refine PreK.intro (by first | omega | (intros; first | omega | (refine ⟨by omega, ?_⟩; simp_all; done) | (simp_all; done) | (simp_all; omega))) fun _ => ?_; (try simp [h2, h2']))
      refine CondK.intro (fun h3 => ?_) (fun h3 => ?_)
      · try simp [h2, h2']
        repeat (refine PreK.intro (by first | omega | (intros; first | omega | (refine ⟨by omega, ?_⟩; simp_all; done) | (simp_all; done) | (simp_all; omega))) fun _ => ?_; (try simp [h2, h2']))
        refine hq 3 [(20, 102)] _ (by omega) (by omega) ?_
        have hle1 : t.length - 3 = t.length - 3 := rfl
        simp [rowN, rowM, range_succ', leEls_refl, refsL_rep, refsL_app, renL_app, renL_rep]
        done
      · simp at h3
    · have hrep : List.replicate (t.length - 3) (AV.seq 1 [] true) = AV.seq 1 [] true :: List.replicate (t.length - 4) (AV.seq 1 [] true) := by
        rw [show t.length - 3 = (t.length - 4) + 1 by omega, List.replicate_succ]
      have hlt : 3 < 3 + (t.length - 4 + 1) := by omega
      have h2' : (3 : Int) < t.length := by omega
      have hs0 : (el t 3).length ≤ 1000 := hw1
      simp only [rowN, rowM, range_succ', List.range_zero, List.nil_append, List.map_append, List.map_cons, List.map_nil, List.cons_append]
      rw [hrep]
      try simp [h2, h2']
      repeat (refine PreK.intro (by first | omega | (intros; first | omega | (refine ⟨by omega, ?_⟩; simp_all; done) | (simp_all; done) | (simp_all; omega))) fun _ => ?_; (try simp [h2, h2']))
      refine CondK.intro (fun h3 => ?_) (fun h3 => ?_)
      · try simp [h2, h2']
        repeat (refine PreK.intro (by first | omega | (intros; first | omega | (refine ⟨by omega, ?_⟩; simp_all; done) | (simp_all; done) | (simp_all; omega))) fun _ => ?_; (try simp [h2, h2']))
        refine hq 4 [(20, 103)] _ (by omega) (by omega) ?_
        have hle1 : t.length - 4 = t.length - 4 := rfl
        simp [rowN, rowM, range_succ', leEls_refl, refsL_rep, refsL_app, renL_app, renL_rep]
        done
      · simp at h3
    · have hrep : List.replicate (t.length - 4) (AV.seq 1 [] true) = AV.seq 1 [] true :: List.replicate (t.length - 5) (AV.seq 1 [] true) := by
        rw [show t.length - 4 = (t.length - 5) + 1 by omega, List.replicate_succ]
      have hlt : 4 < 4 + (t.length - 5 + 1) := by omega
      have h2' : (4 : Int) < t.length := by omega
      have hs0 : (el t 4).length ≤ 1000 := hw1
      simp only [rowN, rowM, range_succ', List.range_zero, List.nil_append, List.map_append, List.map_cons, List.map_nil, List.cons_append]
      rw [hrep]
      try simp [h2, h2']
      repeat (refine PreK.intro (by first | omega | (intros; first | omega | (refine ⟨by omega, ?_⟩; simp_all; done) | (simp_all; done) | (simp_all; omega))) fun _ => ?_; (try simp [h2, h2']))
      refine CondK.intro (fun h3 => ?_) (fun h3 => ?_)
      · try simp [h2, h2']
        repeat (refine PreK.intro (by first | omega | (intros; first | omega | (refine ⟨by omega, ?_⟩; simp_all; done) | (simp_all; done) | (simp_all; omega))) fun _ => ?_; (try simp [h2, h2']))
        refine hq 5 [(20, 104)] _ (by omega) (by omega) ?_
        have hle1 : t.length - 5 = t.length - 5 := rfl
        simp [rowN, rowM, range_succ', leEls_refl, refsL_rep, refsL_app, renL_app, renL_rep]
        done
      · simp at h3
    · have hrep : List.replicate (t.length - 5) (AV.seq 1 [] true) = AV.seq 1 [] true :: List.replicate (t.length - 6) (AV.seq 1 [] true) := by
        rw [show t.length - 5 = (t.length - 6) + 1 by omega, List.replicate_succ]
      have hlt : 5 < 5 + (t.length - 6 + 1) := by omega
      have h2' : (5 : Int) < t.length := by omega
      have hs0 : (el t 5).length ≤ 1000 := hw1
      simp only [rowN, rowM, range_succ', List.range_zero, List.nil_append, List.map_append, List.map_cons, List.map_nil, List.cons_append]
      rw [hrep]
      try simp [h2, h2']
      repeat (refine PreK.intro (by first | omega | (intros; first | omega | (refine ⟨by omega, ?_⟩; simp_all; done) | (simp_all; done) | (simp_all; omega))) fun _ => ?_; (try simp [h2, h2']))
      refine CondK.intro (fun h3 => ?_) (fun h3 => ?_)
      · try simp [h2, h2']
        repeat (refine PreK.intro (by first | omega | (intros; first | omega | (refine ⟨by omega, ?_⟩; simp_all; done) | (simp_all; done) | (simp_all; omega))) fun _ => ?_; (try simp [h2, h2']))
        refine hq 6 [(20, 105)] _ (by omega) (by omega) ?_
        have hle1 : t.length - 6 = t.length - 6 := rfl
        simp [rowN, rowM, range_succ', leEls_refl, refsL_rep, refsL_app, renL_app, renL_rep]
        done
      · simp at h3
  · have : i = t.length := by omega
    subst this
    have hn : t.length = 1 ∨ t.length = 2 ∨ t.length = 3 ∨ t.length = 4 ∨ t.length = 5 ∨ t.length = 6 := by omega
    try simp 
    refine CondK.intro (fun h3 => ?_) (fun h3 => ?_)
    · simp at h3
    · try simp 
      apply he
      try simp 
      repeat (refine PreK.intro (by first | omega | (intros; first | omega | (refine ⟨by omega, ?_⟩; simp_all; done) | (simp_all; done) | (simp_all; omega))) fun _ => ?_; (try simp ))
      refine ⟨[], ?_⟩
      rcases hn with h | h | h | h | h | h <;> simp [h, rowN, rowM, range_succ'] <;> done
end Go.Proofs.Ytnpkaemlidifgaa
end

section
/- The library's sort of words, over a lent box. -/
namespace Go.Proofs.Ytnpkaemlidifgaa
open Go.Abs Go

/-! ### the library's sort -/
section
open Go.Sort Go.Shelf
variable {P : Program} {ρ : Ren}

/-- A word and the value that reads so. -/
abbrev Cell (w : World) (Y : Nat → Prop) := { p : List Int × Value // Rep w Y Mu.none (ints p.1) p.2 }
instance {w : World} {Y : Nat → Prop} : Inhabited (Cell w Y) := ⟨⟨([], .slice none 0 0), .nil⟩⟩
theorem sortWorld_other {α : Type} [Inhabited α] {enc : α → Value} {w : World} {blk off m : Nat} {dk : Array α} {os : Array Obj} {b : Nat} (hb : b < w.heap.size) (hne : b ≠ blk) : (Go.Proofs.sortWorld enc w blk off m dk os).heap[b]? = w.heap[b]? := by
  unfold Go.Proofs.sortWorld Go.Sort.grow Go.Sort.putRow Go.Sort.mapBlock Go.Sort.ahead
  simp only
  rw [Array.getElem?_append_left (by simpa using hb), Array.getElem?_modify, if_neg (Ne.symm hne)]
theorem sortWorld_at {α : Type} [Inhabited α] {enc : α → Value} {w : World} {blk off m : Nat} {dk : Array α} {os : Array Obj} {c : Array Value} {e : TypeId} {fr : Nat × Nat} (hb : w.heap[blk]? = some (.cells c e fr)) : (Go.Proofs.sortWorld enc w blk off m dk os).heap[blk]? = some (.cells (Go.Sort.putCells enc off dk c) e fr) := by
  have hlt := lt_of_heap hb
  unfold Go.Proofs.sortWorld Go.Sort.grow Go.Sort.putRow Go.Sort.mapBlock Go.Sort.ahead
  simp only
  rw [Array.getElem?_append_left (by simpa using hlt), Array.getElem?_modify, if_pos rfl, hb]
  rfl
theorem sortWorld_size {α : Type} [Inhabited α] {enc : α → Value} {w : World} {blk off m : Nat} {dk : Array α} {os : Array Obj} : w.heap.size ≤ (Go.Proofs.sortWorld enc w blk off m dk os).heap.size := by
  unfold Go.Proofs.sortWorld Go.Sort.grow Go.Sort.putRow Go.Sort.mapBlock Go.Sort.ahead
  simp
theorem putCells_getD {α : Type} [Inhabited α] {enc : α → Value} {off : Nat} {d : Array α} {c : Array Value} {k : Nat} (hk : k < c.size) : (Go.Sort.putCells enc off d c).getD k undef = if off ≤ k ∧ k < off + d.size then enc d[k - off]! else c.getD k undef := by
  unfold Go.Sort.putCells
  simp [Array.getD, hk]
end
end Go.Proofs.Ytnpkaemlidifgaa
end

section
/- The library's sort of numbers, over a lent box. -/
namespace Go.Proofs.Ytnpkaemlidifgaa
open Go.Abs Go

def sortI (l : List Int) : List Int := l.mergeSort fun x y => decide (x ≤ y)
theorem sortI_perm (l : List Int) : (sortI l).Perm l := List.mergeSort_perm _ _
theorem sortI_len (l : List Int) : (sortI l).length = l.length := (sortI_perm l).length_eq
theorem sortI_sorted (l : List Int) : (sortI l).Pairwise fun x y => x ≤ y := by
  have := List.pairwise_mergeSort (le := fun x y : Int => decide (x ≤ y)) (fun a b c h1 h2 => by simp at h1 h2 ⊢; omega) (fun a b => by simp; omega) l
  simpa [sortI] using this
section
open Go.Shelf
variable {P : Program} {ρ : Ren}
theorem callL_sortI (L : Lays.n189 P ρ) (d : List Int) : CallL P (ρ.f 189) [] 1 (d.map iv) [] (.val (.tup [])) ((sortI d).map iv) := by
  have hsl := sortI_len d
  refine ⟨?_, fun w X l vs hv hsz hX hXl hh hlen hargs => ?_⟩
  · exact ⟨_, L.f189, by simp [Body.n189], by simp [Body.n189]⟩
  obtain ⟨v0, rfl⟩ : ∃ v0, vs = #[v0] := by
    cases vs with
    | mk l =>
      match l, hlen with
      | [a], _ => exact ⟨a, rfl⟩
  have h0 : Rep w (Yof X (mu1 l)) (mu1 l) (.sl lid 0 0 (d.map iv).length) v0 := hargs 0 (by simp)
  generalize hn : (d.map iv).length = n at h0
  simp only [List.length_map] at hn
  cases h0 with
  | slOld hm hv' =>
    simp only [mu1, if_true, Option.some.injEq] at hm
    subst hm
    omega
  | slNil hm hv' =>
    obtain rfl : d = [] := List.eq_nil_of_length_eq_zero hn
    refine (Any.slices_Sort_int_none L _ 0 w).mono fun e w' ⟨he, hw⟩ => ?_
    subst hw
    exact ⟨_, he, Ext.refl _ _, by simpa [sortI] using hh, .tup rfl fun i hi => absurd hi (by simp)⟩
  | @sl _ _ _ _ _ cap loc g0 n0 hm hv' hb hc hfit hz =>
    simp only [mu1, if_true, Option.some.injEq] at hm
    subst hm
    subst hn
    obtain ⟨hbig, hh⟩ := hh
    rw [hb] at hh
    obtain ⟨c, el, hheap, hcs, hlen', hone, hrep⟩ := hh.1 (by simp)
    rw [hsz] at hfit
    simp only [Nat.zero_mul, Nat.add_zero, Nat.zero_add, Nat.mul_one, List.length_map, hsz] at hfit hlen' ⊢
    have hcell : ∀ i, i < d.length → c.getD (l.base + i) undef = .int .i64 (d[i]!) := by
      intro i hi
      have := (hrep i (by simpa using hi)).2
      simp only [List.getD_eq_getElem?_getD, List.getElem?_map, List.getElem?_eq_getElem hi, Option.map_some, Option.getD_some, Nat.mul_one, if_false, Bool.false_eq_true, elemVal] at this
      rw [getElem!_pos d i hi]
      exact this.one.1
    refine (Any.slices_Sort_int L g0 l.base cap d w (fun j hj => ?_) (lt_of_heap hheap) (by simp only [List.length_map, big] at hbig; omega)).mono fun e w' ⟨he, n, os, hw⟩ => ?_
    · have hj' : j < d.length := by simpa using hj
      have hlt : l.base + j < c.size := by omega
      have h3 := hcell j hj'
      refine ⟨?_, ?_⟩
      · unfold World.cell?
        simp only [hheap]
        simp only [Array.getD_eq_getD_getElem?, Array.getElem?_eq_getElem hlt, Option.getD_some] at h3
        simp [hlt, h3, hj']
      · unfold World.frozen?
        simp [hheap]
    · have hw2 : w' = Go.Proofs.sortWorld (Value.int .i64) w g0 l.base n (sortI d).toArray os := hw
      subst hw2
      refine ⟨_, he, ⟨⟨rfl, Nat.le_add_right _ _⟩, rfl, rfl, sortWorld_size, fun b hlt hno => sortWorld_other hlt ?_⟩, ⟨by simpa [hsl] using hbig, ?_⟩, .tup rfl fun i hi => absurd hi (by simp)⟩
      · rintro rfl
        exact hno (blks_mu1.2 ⟨n0, hb⟩)
      · rw [hb]
        refine ⟨fun _ => ⟨_, el, sortWorld_at hheap, by simpa [Go.Sort.putCells] using hcs, by simpa [hsl] using hlen', fun j hj => ?_, fun i hi => ?_⟩, fun h => by cases h⟩
        · rw [putCells_getD (by omega)]
          split
          · rfl
          · exact hone j hj
        · have hi' : i < (sortI d).length := by simpa using hi
          have hlt : l.base + i * 1 < c.size := by rw [hcs]; omega
          have e3 : (List.map iv (sortI d)).getD i .junk = iv ((sortI d)[i]!) := by
            rw [List.getD_eq_getElem?_getD, List.getElem?_map, List.getElem?_eq_getElem hi', getElem!_pos (sortI d) i hi']
            rfl
          rw [e3]
          refine ⟨rfl, ?_⟩
          show Rep _ _ Mu.none _ ((Go.Sort.putCells (Value.int .i64) l.base (sortI d).toArray c).getD (l.base + i * 1) undef)
          rw [putCells_getD hlt, if_pos (by simp; omega), show l.base + i * 1 - l.base = i by omega]
          have e4 : (sortI d).toArray[i]! = (sortI d)[i]! := by simp
          rw [e4]
          exact .raw rfl
end
end Go.Proofs.Ytnpkaemlidifgaa
end

section
/- The library's sort of words at this program: where its functions and types stand (written by the kit's tool lay-plain), and its contract. -/
namespace Go.Proofs.Ytnpkaemlidifgaa
open Go.Abs Go Go.Shelf
def lsortI_ren : Go.Shelf.Ren := ⟨fun | 189 => 96 | 125 => 101 | 257 => 104 | 128 => 114 | 129 => 115 | 294 => 117 | 295 => 118 | 296 => 119 | 297 => 120 | 298 => 121 | 299 => 122 | 216 => 123 | 300 => 124 | 301 => 125 | 328 => 133 | 329 => 127 | 330 => 128 | 331 => 134 | 332 => 135 | 215 => 105 | 343 => 137 | n => n, fun | 28 => 23 | 3 => 3 | 46 => 106 | 0 => 0 | 51 => 119 | 53 => 121 | 4 => 4 | 183 => 112 | 182 => 111 | 131 => 116 | 5 => 5 | 9 => 9 | 218 => 129 | 222 => 133 | 228 => 141 | 229 => 142 | n => n, fun | n => n⟩
theorem lsortI : Go.Proofs.Lays.n189 Try.prog lsortI_ren := {
  mixed := by kernel_rfl
  f125 := Try.func101.trans (congrArg some (by kernel_rfl))
  f128 := Try.func114.trans (congrArg some (by kernel_rfl))
  f129 := Try.func115.trans (congrArg some (by kernel_rfl))
  f189 := Try.func96.trans (congrArg some (by kernel_rfl))
  f215 := Try.func105.trans (congrArg some (by kernel_rfl))
  f216 := Try.func123.trans (congrArg some (by kernel_rfl))
  f257 := Try.func104.trans (congrArg some (by kernel_rfl))
  f294 := Try.func117.trans (congrArg some (by kernel_rfl))
  f295 := Try.func118.trans (congrArg some (by kernel_rfl))
  f296 := Try.func119.trans (congrArg some (by kernel_rfl))
  f297 := Try.func120.trans (congrArg some (by kernel_rfl))
  f298 := Try.func121.trans (congrArg some (by kernel_rfl))
  f299 := Try.func122.trans (congrArg some (by kernel_rfl))
  f300 := Try.func124.trans (congrArg some (by kernel_rfl))
  f301 := Try.func125.trans (congrArg some (by kernel_rfl))
  f328 := Try.func133.trans (congrArg some (by kernel_rfl))
  f329 := Try.func127.trans (congrArg some (by kernel_rfl))
  f330 := Try.func128.trans (congrArg some (by kernel_rfl))
  f331 := Try.func134.trans (congrArg some (by kernel_rfl))
  f332 := Try.func135.trans (congrArg some (by kernel_rfl))
  f343 := Try.func137.trans (congrArg some (by kernel_rfl))
  t0 := Try.underlying0
  a0 := Try.isAgg0
  z0 := Try.sizeOf0
  v0 := Try.zeroValue0
  t3 := Try.underlying3
  a3 := Try.isAgg3
  z3 := Try.sizeOf3
  v3 := Try.zeroValue3
  t4 := Try.underlying4
  a4 := Try.isAgg4
  z4 := Try.sizeOf4
  v4 := Try.zeroValue4
  t5 := Try.underlying5
  a5 := Try.isAgg5
  z5 := Try.sizeOf5
  v5 := Try.zeroValue5
  t9 := Try.underlying9
  a9 := Try.isAgg9
  z9 := Try.sizeOf9
  v9 := Try.zeroValue9
  t28 := Try.underlying23
  a28 := Try.isAgg23
  z28 := Try.sizeOf23
  v28 := Try.zeroValue23
  t46 := Try.underlying106
  a46 := Try.isAgg106
  z46 := Try.sizeOf106
  v46 := Try.zeroValue106
  t51 := Try.underlying119
  a51 := Try.isAgg119
  z51 := Try.sizeOf119
  v51 := Try.zeroValue119
  t53 := Try.underlying121
  a53 := Try.isAgg121
  z53 := Try.sizeOf121
  v53 := Try.zeroValue121
  t131 := Try.underlying116
  a131 := Try.isAgg116
  z131 := Try.sizeOf116
  v131 := Try.zeroValue116
  t182 := Try.underlying111
  a182 := Try.isAgg111
  z182 := Try.sizeOf111
  v182 := Try.zeroValue111
  t183 := Try.underlying112
  a183 := Try.isAgg112
  z183 := Try.sizeOf112
  v183 := Try.zeroValue112
  t218 := Try.underlying129
  a218 := Try.isAgg129
  z218 := Try.sizeOf129
  v218 := Try.zeroValue129
  t222 := Try.underlying133
  a222 := Try.isAgg133
  z222 := Try.sizeOf133
  v222 := Try.zeroValue133
  t228 := Try.underlying141
  a228 := Try.isAgg141
  z228 := Try.sizeOf141
  v228 := Try.zeroValue141
  t229 := Try.underlying142
  a229 := Try.isAgg142
  z229 := Try.sizeOf142
  v229 := Try.zeroValue142 }
end Go.Proofs.Ytnpkaemlidifgaa
end

section
/- Contracts: equal neighbours of numbers left out; how many different readings a list has. -/
namespace Go.Proofs.Ytnpkaemlidifgaa
open Go.Abs Go
set_option maxRecDepth 20000
set_option maxHeartbeats 2000000
attribute [local irreducible] PreK CondK CallK CallG CallX LoopK
attribute [local simp] avsEq avEq akind teq vkind vEq

/-- A list whose equal neighbours are one. -/
def comI (p : Int) : List Int → List Int
  | [] => []
  | y :: l => if y = p then comI p l else y :: comI y l
def compI : List Int → List Int
  | [] => []
  | x :: l => x :: comI x l
theorem comI_num : ∀ (p : Int) (l : List Int), (comI p l).length ≤ l.length
  | p, [] => by simp [comI]
  | p, y :: l => by
    rw [comI]
    split
    · have := comI_num p l; simp; omega
    · have := comI_num y l; simp; omega
theorem compI_num (l : List Int) : (compI l).length ≤ l.length := by
  cases l with
  | nil => simp [compI]
  | cons x l => simp only [compI, List.length_cons]; have := comI_num x l; omega
theorem comI_spec : ∀ (p : Int) (l : List Int), (p :: l).Pairwise (fun x y => x ≤ y) → (p :: comI p l).Pairwise (· < ·) ∧ ∀ z, z ∈ p :: comI p l ↔ z ∈ p :: l
  | p, [], _ => by simp [comI]
  | p, y :: l, h => by
    rw [List.pairwise_cons] at h
    rw [comI]
    split
    · rename_i e
      subst e
      obtain ⟨h1, h2⟩ := comI_spec y l h.2
      exact ⟨h1, fun z => by rw [h2]; simp⟩
    · rename_i e
      obtain ⟨h1, h2⟩ := comI_spec y l h.2
      have hpy : p < y := by have := h.1 y (by simp); omega
      refine ⟨?_, fun z => ?_⟩
      · have h3 := h1
        rw [List.pairwise_cons] at h1 ⊢
        refine ⟨fun z hz => ?_, h3⟩
        rcases List.mem_cons.1 hz with rfl | hz
        · exact hpy
        · have := h1.1 z hz; omega
      · rw [List.mem_cons, h2, ← List.mem_cons]
theorem compI_spec (l : List Int) (h : l.Pairwise (fun x y => x ≤ y)) : (compI l).Pairwise (· < ·) ∧ ∀ z, z ∈ compI l ↔ z ∈ l := by
  cases l with
  | nil => simp [compI]
  | cons x l => exact comI_spec x l h
theorem diffN_comp (l : List Int) : (compI (sortI l)).length = diffN l := by
  obtain ⟨h1, h2⟩ := compI_spec (sortI l) (sortI_sorted l)
  symm
  refine diffN_of (h1.imp fun h => by omega) fun x => ?_
  rw [h2, (sortI_perm l).mem_iff]
theorem take_setI {α : Type} [Inhabited α] (o : List α) (i : Nat) (v : α) (hi : i < o.length) : (o.set i v).take (i + 1) = o.take i ++ [v] := by
  rw [take_succ _ i (by simpa using hi)]
  have : el (o.set i v) i = v := by unfold el; simp [hi]
  rw [this, List.take_set, List.set_eq_of_length_le (by simp; omega)]
theorem Compact_L (l : List Int) (hl : l.length ≤ 1000) :
    CallL Try.prog 97 [] 1 (l.map iv) [] (.part (compI l).length) ((compI l).map iv ++ List.replicate (l.length - (compI l).length) (iv 0)) := by
  refine CL97 (by simp) ?_
  generalize hR : compI l = R
  simp [A97]
  refine CondK.intro (fun h1 => ?_) (fun h1 => ?_)
  · simp at h1
    have : R = l := by
      rw [← hR]
      match l, h1 with
      | [], _ => rfl
      | [x], _ => rfl
      | _ :: _ :: _, h1 => simp at h1; omega
    subst this
    simp
  · simp at h1
    try simp 
    have h0 : l.take 1 ++ comI (el l 0) (l.drop 1) = R := by
      rw [← hR]
      match l, h1 with
      | x :: m, _ => simp [compI, el]
    refine LoopK.by (fun k : Nat => ⟨[(3, iv ((k : Int) + 1)), (0, .sl lid 0 0 l.length)], [(lid, some ⟨1, l.map iv, 0, false⟩)]⟩) (fun i => l.length - i) (fun k => k + 1 ≤ l.length ∧ l.take (k + 1) ++ comI (el l k) (l.drop (k + 1)) = R) 0 ⟨by omega, h0⟩ (by simp) ?_
    intro k Q' ⟨hk, hc⟩ hq he hr
    try simp 
    refine CondK.intro (fun h2 => ?_) (fun h2 => ?_)
    · simp at h2
      have h2' : k + 1 < l.length := by omega
      have h2'' : k < l.length := by omega
      rw [drop_cons l (k + 1) h2', comI] at hc
      repeat (refine PreK.intro (by first | omega | (intros; first | omega | (refine ⟨by omega, ?_⟩; simp_all; done) | (simp_all; done) | (simp_all; omega))) fun _ => ?_; (try simp [h2', h2'']))
      refine CondK.intro (fun h3 => ?_) (fun h3 => ?_)
      · simp at h3
        rw [if_pos h3, ← h3] at hc
        try simp 
        repeat' (first
          | ((with_reducible refine PreK.intro ?_ ?_); (next => (first | omega | (intros; first | omega | (refine ⟨by omega, ?_⟩; repeat (first | assumption | constructor)) | assumption))); intro _; try simp )
          | fail)
        refine LoopK.by (ι := Nat × Nat × List Int) (fun x => ⟨[(5, iv ((x.1 : Int) + 1)), (3, iv x.2.1), (4, .sl lid 0 (k + 1) (l.length - (k + 1))), (0, .sl lid 0 0 l.length)], [(lid, some ⟨1, x.2.2.map iv, 0, false⟩)]⟩) (fun x => l.length - x.1)
          (fun x => k + 1 + x.1 + 1 ≤ l.length ∧ x.2.1 ≤ k + 1 + x.1 ∧ x.2.2.length = l.length ∧ (∀ q, k + 1 + x.1 ≤ q → el x.2.2 q = el l q) ∧ x.2.2.take x.2.1 ++ comI (el l (k + 1 + x.1)) (l.drop (k + 1 + x.1 + 1)) = R) (0, k + 1, l) ⟨by dsimp only; omega, by simp, rfl, fun _ _ => rfl, hc⟩ (by simp) ?_
        intro ⟨j, i, c⟩ Q'' ⟨hj, hij, hcl, hce, hin⟩ hq' he' hr'
        dsimp only at hj hij hcl hce hin
        try simp 
        refine CondK.intro (fun h4 => ?_) (fun h4 => ?_)
        · simp at h4
          have h5 : k + 1 + j + 1 < l.length := by omega
          have e1 := hce (k + 1 + j) (by omega)
          have e2 := hce (k + 1 + (j + 1)) (by omega)
          have e3 : k + 1 + (j + 1) = k + 1 + j + 1 := rfl
          have g1 : k + 1 + j < c.length := by omega
          have g2 : k + 1 + (j + 1) < c.length := by omega
          rw [drop_cons l _ h5, comI] at hin
          repeat (refine PreK.intro (by first | omega | (intros; first | omega | (refine ⟨by omega, ?_⟩; simp_all; done) | (simp_all; done) | (simp_all; omega))) fun _ => ?_; (try simp [g1, g2, e1, e2]))
          refine CondK.intro (fun h6 => ?_) (fun h6 => ?_)
          · simp at h6
            rw [if_neg (by rw [← e3]; exact h6)] at hin
            have g3 : i < c.length := by omega
            repeat (refine PreK.intro (by first | omega | (intros; first | omega | (refine ⟨by omega, ?_⟩; simp_all; done) | (simp_all; done) | (simp_all; omega))) fun _ => ?_; (try simp [g1, g2, e1, e2, g3]))
            refine hq' (j + 1, i + 1, c.set i (el l (k + 1 + (j + 1)))) _ ⟨by dsimp only; omega, by dsimp only; omega, by simpa using hcl, fun q hq2 => ?_, ?_⟩ (by dsimp only; omega) ?_
            · dsimp only at hq2 ⊢
              unfold el
              rw [List.getD_eq_getElem?_getD, List.getElem?_set, if_neg (by omega), ← List.getD_eq_getElem?_getD]
              exact hce q (by omega)
            · dsimp only
              rw [take_setI _ _ _ g3, List.append_assoc]
              exact hin
            · simp [List.map_set]
          · simp at h6
            rw [if_pos (by rw [← e3]; exact h6)] at hin
            repeat (refine PreK.intro (by first | omega | (intros; first | omega | (refine ⟨by omega, ?_⟩; simp_all; done) | (simp_all; done) | (simp_all; omega))) fun _ => ?_; (try simp ))
            refine hq' (j + 1, i, c) _ ⟨by dsimp only; omega, by dsimp only; omega, hcl, fun q hq2 => hce q (by dsimp only at hq2; omega), ?_⟩ (by dsimp only; omega) (by simp)
            dsimp only
            rw [h6]
            exact hin
        · simp at h4
          rw [List.drop_eq_nil_of_le (by omega)] at hin
          simp only [comI, List.append_nil] at hin
          have hRl : R.length = i := by rw [← hin]; simp; omega
          try simp 
          apply he'
          have e5 : (c.map iv).take i = R.map iv := by rw [← hin, List.map_take]
          have e6 : (c.map iv).drop (i + (l.length - i)) = [] := List.drop_eq_nil_of_le (by simp; omega)
          try simp 
          repeat' (first
            | ((with_reducible refine PreK.intro ?_ ?_); (next => (first | omega | (intros; first | omega | (refine ⟨by omega, ?_⟩; repeat (first | assumption | constructor)) | assumption))); intro _; try simp )
            | fail)
          apply hr
          simp only [e5, e6, hRl]
          try simp 
      · simp at h3
        rw [if_neg h3] at hc
        repeat (refine PreK.intro (by first | omega | (intros; first | omega | (refine ⟨by omega, ?_⟩; simp_all; done) | (simp_all; done) | (simp_all; omega))) fun _ => ?_; (try simp ))
        refine hq (k + 1) _ ⟨by omega, ?_⟩ (by omega) (by simp)
        rw [take_succ l (k + 1) h2']
        simpa using hc
    · simp at h2
      rw [List.drop_eq_nil_of_le (by omega)] at hc
      simp only [comI, List.append_nil] at hc
      rw [List.take_of_length_le (by omega)] at hc
      subst hc
      try simp 
      apply he
      try simp 
      repeat' (first
        | ((with_reducible refine PreK.intro ?_ ?_); (next => (first | omega | (intros; first | omega | (refine ⟨by omega, ?_⟩; repeat (first | assumption | constructor)) | assumption))); intro _; try simp )
        | fail)
theorem different_c (l : List Int) (hl : l.length ≤ 1000) : CallP Try.prog 66 [ints l] (iv (diffN l)) := by
  refine C66 (by simp) ?_
  have h1 : CallL Try.prog 96 [] 1 (l.map iv) [] (.val (.tup [])) ((sortI l).map iv) := callL_sortI lsortI l
  have hsl := sortI_len l
  have h2 := Compact_L (sortI l) (by omega)
  have hn := compI_num (sortI l)
  rw [← diffN_comp]
  generalize sortI l = s at h1 h2 hsl hn
  generalize compI s = c at h2 hn
  simp [A66]
  refine CallX.own (by simpa using clone_o l (by omega)) (by simp) (by simp) ?_
  try simp 
  refine CallX.lend [] (id := 4) (ver := 1) (n := l.length) (b := ⟨1, l.map iv, 1, false⟩) [] (.val (.tup [])) _ (by simp) (by simp) (by simp) (by simp) (by simp) (by simp) (by simp) (by simpa using h1) ?_
  try simp 
  refine CallX.lend [] (id := 4) (ver := 1) (n := l.length) (b := ⟨1, s.map iv, 1, false⟩) [] (.part c.length) _ (by simp) (by simp) (by simp) (by simp) (by simp [hsl]) (by simp) (by simp) (by simpa using h2) ?_
  simp [hsl]
end Go.Proofs.Ytnpkaemlidifgaa
end

section
/- Plain: copies with the same readings. -/
namespace Go.Proofs.Ytnpkaemlidifgaa
open Go.Abs Go

def sumL : List (List Int) → Nat
  | [] => 0
  | g :: l => g.length + sumL l
structure DblOK (i : Nat) (out : List (List Int)) : Prop where
  len : out.length ≤ i
  sum : sumL out = i
  grp : ∀ g ∈ out, 0 < g.length ∧ g.length ≤ i ∧ ∀ x ∈ g, 0 ≤ x ∧ x < (i : Int)
theorem list3 {α : Type} {l : List α} (h : l.length = 3) : ∃ a b c, l = [a, b, c] := by
  match l, h with
  | [a, b, c], _ => exact ⟨a, b, c, rfl⟩
end Go.Proofs.Ytnpkaemlidifgaa
end

section
/- Plain: which replacements of readings are right. -/
namespace Go.Proofs.Ytnpkaemlidifgaa
open Go.Abs Go

def toErr (to : List Int) : Int := if to.length ≠ 3 then 1 else if diffN to ≠ 3 then 1 else if (to.any fun n => !okR n) = true then 1 else 0
def SpellR (t : List (List Int)) (p : Int) (to : List Int) : List (List Int) × Int :=
  if placedErr t [p] ≠ 0 then ([], placedErr t [p]) else if toErr to ≠ 0 then ([], 1) else (spellM t p.toNat to, 0)
theorem diff3 {a b c : Int} : diffN [a, b, c] = 3 ↔ a ≠ b ∧ a ≠ c ∧ b ≠ c := by
  rw [diffN_cons, diffN_cons, diffN_cons, diffN_nil]
  by_cases h1 : a ∈ [b, c]
  · rw [if_pos h1]
    simp only [List.mem_cons, List.not_mem_nil, or_false] at h1
    constructor
    · intro h
      exfalso
      split at h <;> split at h <;> omega
    · intro h
      omega
  · rw [if_neg h1]
    simp only [List.mem_cons, List.not_mem_nil, or_false, not_or] at h1
    by_cases h2 : b ∈ [c]
    · rw [if_pos h2]
      simp only [List.mem_cons, List.not_mem_nil, or_false] at h2
      constructor
      · intro h
        exfalso
        split at h <;> omega
      · intro h
        omega
    · rw [if_neg h2]
      simp only [List.mem_cons, List.not_mem_nil, or_false] at h2
      simp only [List.not_mem_nil, if_false]
      constructor
      · intro _
        exact ⟨h1.1, h1.2, h2⟩
      · intro _
        trivial
theorem okR_iff (n : Int) : okR n = true ↔ 0 ≤ n ∧ n ≤ 2 := by
  unfold okR
  rw [Bool.and_eq_true, decide_eq_true_eq, decide_eq_true_eq]
theorem toErr_iff {a b c : Int} : toErr [a, b, c] = 0 ↔ (a ≠ b ∧ a ≠ c ∧ b ≠ c) ∧ (0 ≤ a ∧ a ≤ 2) ∧ (0 ≤ b ∧ b ≤ 2) ∧ (0 ≤ c ∧ c ≤ 2) := by
  unfold toErr
  rw [if_neg (by simp)]
  by_cases h1 : diffN [a, b, c] = 3
  · rw [if_neg (by simpa using h1)]
    have h1' := diff3.1 h1
    by_cases h2 : ([a, b, c].any fun n => !okR n) = true
    · rw [if_pos h2]
      constructor
      · intro h; cases h
      · rintro ⟨_, h3, h4, h5⟩
        exfalso
        simp only [List.any_cons, List.any_nil, Bool.or_false, (okR_iff a).2 h3, (okR_iff b).2 h4, (okR_iff c).2 h5] at h2
        cases h2
    · rw [if_neg h2]
      simp only [List.any_cons, List.any_nil, Bool.or_false, Bool.or_eq_true, not_or, Bool.not_eq_true', Bool.not_eq_false] at h2
      exact ⟨fun _ => ⟨h1', (okR_iff a).1 h2.1, (okR_iff b).1 h2.2.1, (okR_iff c).1 h2.2.2⟩, fun _ => rfl⟩
  · rw [if_pos h1]
    constructor
    · intro h; cases h
    · intro h
      exact absurd (diff3.2 h.1) h1
theorem toErr_zero {to : List Int} (h : toErr to = 0) : SpellOK to := by
  have hl : to.length = 3 := by
    refine Decidable.by_contra fun h2 => ?_
    unfold toErr at h
    rw [if_pos h2] at h
    cases h
  obtain ⟨a, b, c, rfl⟩ := list3 hl
  obtain ⟨⟨n1, n2, n3⟩, h3, h4, h5⟩ := toErr_iff.1 h
  refine ⟨rfl, fun x hx => ?_, fun i j hi hj e => ?_⟩
  · simp only [List.mem_cons, List.not_mem_nil, or_false] at hx
    rcases hx with rfl | rfl | rfl <;> assumption
  · have h0 : el [a, b, c] 0 = a := rfl
    have h1 : el [a, b, c] 1 = b := rfl
    have h2 : el [a, b, c] 2 = c := rfl
    have hi' : i = 0 ∨ i = 1 ∨ i = 2 := by omega
    have hj' : j = 0 ∨ j = 1 ∨ j = 2 := by omega
    rcases hi' with rfl | rfl | rfl <;> rcases hj' with rfl | rfl | rfl <;> simp only [h0, h1, h2] at e <;> omega
theorem toErr_all {to : List Int} (hl : to.length = 3) : toErr to = 0 ↔ (0 : Int) ∈ to ∧ (1 : Int) ∈ to ∧ (2 : Int) ∈ to := by
  obtain ⟨a, b, c, rfl⟩ := list3 hl
  rw [toErr_iff]
  simp only [List.mem_cons, List.not_mem_nil, or_false]
  constructor
  · intro h
    omega
  · intro h
    omega
theorem mem_take_succ (l : List Int) (i : Nat) (h : i < l.length) (p : Int) : decide (p ∈ l.take (i + 1)) = (decide (p ∈ l.take i) || decide (el l i = p)) := by
  rw [take_succ l i h]
  by_cases h1 : p ∈ l.take i
  · simp [h1]
  · by_cases h2 : el l i = p
    · simp [h2]
    · have h3 : ¬ p = el l i := fun e => h2 e.symm
      simp [h1, h2, h3]
end Go.Proofs.Ytnpkaemlidifgaa
end

section
/- Contracts: copies of readings that own their rows; readings that are written otherwise (stemma.Spell). (written by mkspell.py) -/
namespace Go.Proofs.Ytnpkaemlidifgaa
open Go.Abs Go
set_option maxRecDepth 20000
set_option maxHeartbeats 2000000
attribute [local irreducible] PreK CondK CallK CallG CallX LoopK
attribute [local simp] avsEq avEq akind teq vkind vEq

theorem spell_rows (t : List (List Int)) (p : Nat) (to : List Int) : (spellM t p to).map ints = (List.range t.length).map fun j => ints ((el t j).set p (el to (el (el t j) p).toNat)) := by
  unfold spellM
  rw [List.map_map]
  apply List.ext_getElem
  · simp
  · intro i h1 h2
    have hi : i < t.length := by simpa using h1
    simp [el_eq t i hi]
theorem notReadingS_c (n : Int) : CallP Try.prog 86 [iv n] (bv (!okR n)) := by
  refine C86 (by simp) ?_
  simp [A86]
  refine CallX.pure (by simpa using isReading_c n) (by simp) (by simp) ?_
  try simp 
theorem Spell_e (t : List (List Int)) (p : Int) (to : List Int) (h : Sm t) (ht : to.length ≤ 1000) (he : (SpellR t p to).2 ≠ 0) : CallP Try.prog 54 [rdsV t, iv p, ints to] (.tup [rdsV [], iv (SpellR t p to).2]) := by
  refine C54 (by simp) ?_
  have hp := placed_c t [p] h (by simp)
  have hd := different_c to ht
  have hcf := containsFunc_c to (by simp only [big]; omega) 86 [] (fun n => !okR n) notReadingS_c (by simp [snapL]) (by simp [AV.refsL]) (by simp [snapOKL])
  simp [A54]
  try simp 
  repeat' (first
    | (refine CallX.pure (hp) (by simp) (by simp) ?_; try simp )
    | (refine CallK.intro (hp) (by simp) (by simp) ?_; try simp )
    | (refine CallG.intro (fun _ => hp) (by simp) (by simp) ?_; try simp )
    | ((with_reducible refine PreK.intro ?_ ?_); (next => (first | omega | (intros; first | omega | (refine ⟨by omega, ?_⟩; repeat (first | assumption | constructor)) | assumption))); intro _; try simp )
    | fail)
  unfold SpellR at he ⊢
  by_cases h1 : placedErr t [p] = 0
  · rw [if_neg (by simpa using h1)] at he ⊢
    by_cases h2 : toErr to = 0
    · rw [if_neg (by simpa using h2)] at he
      exact absurd rfl he
    · rw [if_pos h2]
      try simp [h1]
      repeat (refine PreK.intro (by first | omega | (intros; first | omega | (refine ⟨by omega, ?_⟩; simp_all; done) | (simp_all; done) | (simp_all; omega))) fun _ => ?_; (try simp [h1]))
      refine CondK.ff ?_
      try simp 
      try simp 
      repeat (refine PreK.intro (by first | omega | (intros; first | omega | (refine ⟨by omega, ?_⟩; simp_all; done) | (simp_all; done) | (simp_all; omega))) fun _ => ?_; (try simp ))
      by_cases h3 : to.length = 3
      · have h3' : (to.length : Int) = 3 := by omega
        try simp [h3, h3']
        repeat' (first
          | (refine CallX.pure (hd) (by simp) (by simp) ?_; try simp [h3, h3'])
          | (refine CallK.intro (hd) (by simp) (by simp) ?_; try simp [h3, h3'])
          | (refine CallG.intro (fun _ => hd) (by simp) (by simp) ?_; try simp [h3, h3'])
          | ((with_reducible refine PreK.intro ?_ ?_); (next => (first | omega | (intros; first | omega | (refine ⟨by omega, ?_⟩; repeat (first | assumption | constructor)) | assumption))); intro _; try simp [h3, h3'])
          | fail)
        by_cases h4 : diffN to = 3
        · have h5 : (to.any fun n => !okR n) = true := by
            refine Decidable.by_contra fun h5 => h2 ?_
            unfold toErr
            rw [if_neg (by simpa using h3), if_neg (by simpa using h4), if_neg h5]
          rw [h5] at hcf
          try simp [h3, h3', h4]
          repeat' (first
            | (refine CallX.pure (hcf) (by simp) (by simp) ?_; try simp [h3, h3', h4])
            | (refine CallK.intro (hcf) (by simp) (by simp) ?_; try simp [h3, h3', h4])
            | (refine CallG.intro (fun _ => hcf) (by simp) (by simp) ?_; try simp [h3, h3', h4])
            | ((with_reducible refine PreK.intro ?_ ?_); (next => (first | omega | (intros; first | omega | (refine ⟨by omega, ?_⟩; repeat (first | assumption | constructor)) | assumption))); intro _; try simp [h3, h3', h4])
            | fail)
          try simp 
          repeat (refine PreK.intro (by first | omega | (intros; first | omega | (refine ⟨by omega, ?_⟩; simp_all; done) | (simp_all; done) | (simp_all; omega))) fun _ => ?_; (try simp ))
          refine CondK.tt ?_
          try simp 
          try simp 
          repeat (refine PreK.intro (by first | omega | (intros; first | omega | (refine ⟨by omega, ?_⟩; simp_all; done) | (simp_all; done) | (simp_all; omega))) fun _ => ?_; (try simp ))
        · have h4' : ¬ ((diffN to : Nat) : Int) = 3 := by omega
          try simp [h3, h3', h4, h4']
          repeat (refine PreK.intro (by first | omega | (intros; first | omega | (refine ⟨by omega, ?_⟩; simp_all; done) | (simp_all; done) | (simp_all; omega))) fun _ => ?_; (try simp [h3, h3', h4, h4']))
          refine CallG.intro (r := (bv true)) (fun hh => by cases hh) (by simp) (by simp) ?_
          try simp 
          try simp 
          repeat (refine PreK.intro (by first | omega | (intros; first | omega | (refine ⟨by omega, ?_⟩; simp_all; done) | (simp_all; done) | (simp_all; omega))) fun _ => ?_; (try simp ))
          refine CondK.tt ?_
          try simp 
          try simp 
          repeat (refine PreK.intro (by first | omega | (intros; first | omega | (refine ⟨by omega, ?_⟩; simp_all; done) | (simp_all; done) | (simp_all; omega))) fun _ => ?_; (try simp ))
      · have h3' : ¬ (to.length : Int) = 3 := by omega
        try simp [h3, h3']
        repeat (refine PreK.intro (by first | omega | (intros; first | omega | (refine ⟨by omega, ?_⟩; simp_all; done) | (simp_all; done) | (simp_all; omega))) fun _ => ?_; (try simp [h3, h3']))
        refine CallG.intro (r := (iv 0)) (fun hh => by cases hh) (by simp) (by simp) ?_
        try simp 
        try simp [h3, h3']
        repeat (refine PreK.intro (by first | omega | (intros; first | omega | (refine ⟨by omega, ?_⟩; simp_all; done) | (simp_all; done) | (simp_all; omega))) fun _ => ?_; (try simp [h3, h3']))
        refine CallG.intro (r := (bv true)) (fun hh => by cases hh) (by simp) (by simp) ?_
        try simp 
        try simp 
        repeat (refine PreK.intro (by first | omega | (intros; first | omega | (refine ⟨by omega, ?_⟩; simp_all; done) | (simp_all; done) | (simp_all; omega))) fun _ => ?_; (try simp ))
        refine CondK.tt ?_
        try simp 
        try simp 
        repeat (refine PreK.intro (by first | omega | (intros; first | omega | (refine ⟨by omega, ?_⟩; simp_all; done) | (simp_all; done) | (simp_all; omega))) fun _ => ?_; (try simp ))
  · rw [if_pos h1]
    try simp [h1]
    repeat (refine PreK.intro (by first | omega | (intros; first | omega | (refine ⟨by omega, ?_⟩; simp_all; done) | (simp_all; done) | (simp_all; omega))) fun _ => ?_; (try simp [h1]))
    refine CondK.tt ?_
    try simp 
    try simp 
    repeat (refine PreK.intro (by first | omega | (intros; first | omega | (refine ⟨by omega, ?_⟩; simp_all; done) | (simp_all; done) | (simp_all; omega))) fun _ => ?_; (try simp ))
theorem Copy_c (t : List (List Int)) (h : Sm t) : CallP Try.prog 53 [rdsV t] (rdsV t) := by
  refine C53 (by simp) ?_
  have hn := h.num
  simp [A53]
  try simp 
  repeat (refine PreK.intro (by first | omega | (intros; first | omega | (refine ⟨by omega, ?_⟩; simp_all; done) | (simp_all; done) | (simp_all; omega))) fun _ => ?_; (try simp ))
  refine LoopK.by (ι := Nat × Nat × List (List Int)) (fun x => ⟨[(4, iv x.1), (3, .sl 3 x.2.1 0 x.2.2.length), (0, rdsV t)], [(3, some ⟨1, x.2.2.map ints, x.2.1, false⟩)]⟩) (fun x => t.length - x.1)
    (fun x => x.1 ≤ t.length ∧ x.2.2.length ≤ x.1 ∧ x.2.2 = t.take x.1) (0, 1, []) ⟨Nat.zero_le _, by simp, by simp⟩ (by simp) ?_
  intro ⟨i, v, out⟩ Q' ⟨hi, hol, ho⟩ hq he hr
  dsimp only at hi hol ho
  try simp 
  refine CondK.intro (fun h7 => ?_) (fun h7 => ?_)
  · simp at h7
    have hst : t.take (i + 1) = t.take i ++ [el t i] := take_succ t i h7
    have hw := h.el i
    try simp [h7]
    repeat (refine PreK.intro (by first | omega | (intros; first | omega | (refine ⟨by omega, ?_⟩; simp_all; done) | (simp_all; done) | (simp_all; omega))) fun _ => ?_; (try simp [h7]))
    by_cases h0 : (el t i).length = 0
    · have h0' : el t i = [] := List.eq_nil_of_length_eq_zero h0
      try simp [h7, h0']
      repeat (refine PreK.intro (by first | omega | (intros; first | omega | (refine ⟨by omega, ?_⟩; simp_all; done) | (simp_all; done) | (simp_all; omega))) fun _ => ?_; (try simp [h7, h0']))
      exact hq (i + 1, v + 1, out ++ [el t i]) _ ⟨by dsimp only; omega, by simp; omega, by rw [ho, hst]⟩ (by dsimp only; omega) (by simp [h0'])
    · have h0' : ¬ el t i = [] := fun e => h0 (by rw [e]; rfl)
      try simp [h7, h0']
      repeat (refine PreK.intro (by first | omega | (intros; first | omega | (refine ⟨by omega, ?_⟩; simp_all; done) | (simp_all; done) | (simp_all; omega))) fun _ => ?_; (try simp [h7, h0']))
      exact hq (i + 1, v + 1, out ++ [el t i]) _ ⟨by dsimp only; omega, by simp; omega, by rw [ho, hst]⟩ (by dsimp only; omega) (by simp)
  · simp at h7
    have : i = t.length := by omega
    subst this
    rw [List.take_length] at ho
    try simp 
    apply he
    try simp [ho]
    repeat (refine PreK.intro (by first | omega | (intros; first | omega | (refine ⟨by omega, ?_⟩; simp_all; done) | (simp_all; done) | (simp_all; omega))) fun _ => ?_; (try simp [ho]))
    done
theorem CM53 {args : List AV} {r : AV} {m' : List (Nat × Option Box)} (hn : args.length ≤ 21) (h : vc Try.prog T [18] A53 (FinM T [(.tmp 2)] r m') ⟨envOf 0 args, []⟩) : CallM Try.prog 53 args r m' :=
  callM_of tok mixed Try.func53 (by kernel_rfl) (by kernel_rfl) (by kernel_rfl : Try.f53.ntmps = 21) (by kernel_rfl : Try.f53.body.bind (strip 21 (fun _ => [])) = some A53) hn h
theorem Copy_m (t : List (List Int)) (h1 : 1 ≤ t.length) (h6 : t.length ≤ 6) (hw : ∀ j, j < t.length → 1 ≤ (el t j).length ∧ (el t j).length ≤ 1000) :
    CallM Try.prog 53 [rdsV t] (.sl 3 (t.length + 1) 0 t.length) ((3, some ⟨1, rowN t t.length, t.length + 1, true⟩) :: rowM t t.length) := by
  refine CM53 (by simp) ?_
  simp [A53]
  try simp 
  repeat (refine PreK.intro (by first | omega | (intros; first | omega | (refine ⟨by omega, ?_⟩; simp_all; done) | (simp_all; done) | (simp_all; omega))) fun _ => ?_; (try simp ))
  refine LoopK.byR (ι := Nat) (fun i => ⟨[(4, iv i), (3, .sl 3 (i + 1) 0 i), (0, rdsV t)], (3, some ⟨1, rowN t i, i + 1, true⟩) :: rowM t i⟩) (fun i => t.length - i) (fun i => i ≤ t.length) 0 (Nat.zero_le _) (by simp [rowN, rowM, leEls_refl]) ?_
  intro i Q' hi hq he hr hfz
  by_cases h2 : i < t.length
  · obtain ⟨hwa, hwb⟩ := hw i h2
    have hwc : ¬ el t i = [] := fun e => by rw [e] at hwa; simp at hwa
    have hi6 : i = 0 ∨ i = 1 ∨ i = 2 ∨ i = 3 ∨ i = 4 ∨ i = 5 := by omega
    rcases hi6 with rfl | rfl | rfl | rfl | rfl | rfl
    · have h2' : (0 : Int) < t.length := by omega
      simp only [rowN, rowM, range_succ', List.range_zero, List.nil_append, List.map_append, List.map_cons, List.map_nil, List.cons_append]
      try simp [h2, h2']
      repeat (refine PreK.intro (by first | omega | (intros; first | omega | (refine ⟨by omega, ?_⟩; simp_all; done) | (simp_all; done) | (simp_all; omega))) fun _ => ?_; (try simp [h2, h2']))
      refine CondK.intro (fun h3 => ?_) (fun h3 => ?_)
      · try simp [h2, h2', hwc]
        repeat (refine PreK.intro (by first | omega | (intros; first | omega | (refine ⟨by omega, ?_⟩; simp_all; done) | (simp_all; done) | (simp_all; omega))) fun _ => ?_; (try simp [h2, h2', hwc]))
        refine hq 1 [(17, 100)] _ (by omega) (by omega) ?_
        simp [rowN, rowM, range_succ', leEls_refl]
        done
      · simp at h3
    · have h2' : (1 : Int) < t.length := by omega
      simp only [rowN, rowM, range_succ', List.range_zero, List.nil_append, List.map_append, List.map_cons, List.map_nil, List.cons_append]
      try simp [h2, h2']
      repeat (refine PreK.intro (by first | omega | (intros; first | omega | (refine ⟨by omega, ?_⟩; simp_all; done) | (simp_all; done) | (simp_all; omega))) fun _ => ?_; (try simp [h2, h2']))
      refine CondK.intro (fun h3 => ?_) (fun h3 => ?_)
      · try simp [h2, h2', hwc]
        repeat (refine PreK.intro (by first | omega | (intros; first | omega | (refine ⟨by omega, ?_⟩; simp_all; done) | (simp_all; done) | (simp_all; omega))) fun _ => ?_; (try simp [h2, h2', hwc]))
        refine hq 2 [(17, 101)] _ (by omega) (by omega) ?_
        simp [rowN, rowM, range_succ', leEls_refl]
        done
      · simp at h3
    · have h2' : (2 : Int) < t.length := by omega
      simp only [rowN, rowM, range_succ', List.range_zero, List.nil_append, List.map_append, List.map_cons, List.map_nil, List.cons_append]
      try simp [h2, h2']
      repeat (refine PreK.intro (by first | omega | (intros; first | omega | (refine ⟨by omega, ?_⟩; simp_all; done) | (simp_all; done) | (simp_all; omega))) fun _ => ?_; (try simp [h2, h2']))
      refine CondK.intro (fun h3 => ?_) (fun h3 => ?_)
      · try simp [h2, h2', hwc]
        repeat (refine PreK.intro (by first | omega | (intros; first | omega | (refine ⟨by omega, ?_⟩; simp_all; done) | (simp_all; done) | (simp_all; omega))) fun _ => ?_; (try simp [h2, h2', hwc]))
        refine hq 3 [(17, 102)] _ (by omega) (by omega) ?_
        simp [rowN, rowM, range_succ', leEls_refl]
        done
      · simp at h3
    · have h2' : (3 : Int) < t.length := by omega
      simp only [rowN, rowM, range_succ', List.range_zero, List.nil_append, List.map_append, List.map_cons, List.map_nil, List.cons_append]
      try simp [h2, h2']
      repeat (refine PreK.intro (by first | omega | (intros; first | omega | (refine ⟨by omega, ?_⟩; simp_all; done) | (simp_all; done) | (simp_all; omega))) fun _ => ?_; (try simp [h2, h2']))
      refine CondK.intro (fun h3 => ?_) (fun h3 => ?_)
      · try simp [h2, h2', hwc]
        repeat (refine PreK.intro (by first | omega | (intros; first | omega | (refine ⟨by omega, ?_⟩; simp_all; done) | (simp_all; done) | (simp_all; omega))) fun _ => ?_; (try simp [h2, h2', hwc]))
        refine hq 4 [(17, 103)] _ (by omega) (by omega) ?_
        simp [rowN, rowM, range_succ', leEls_refl]
        done
      · simp at h3
    · have h2' : (4 : Int) < t.length := by omega
      simp only [rowN, rowM, range_succ', List.range_zero, List.nil_append, List.map_append, List.map_cons, List.map_nil, List.cons_append]
      try simp [h2, h2']
      repeat (refine PreK.intro (by first | omega | (intros; first | omega | (refine ⟨by omega, ?_⟩; simp_all; done) | (simp_all; done) | (simp_all; omega))) fun _ => ?_; (try simp [h2, h2']))
      refine CondK.intro (fun h3 => ?_) (fun h3 => ?_)
      · try simp [h2, h2', hwc]
        repeat (refine PreK.intro (by first | omega | (intros; first | omega | (refine ⟨by omega, ?_⟩; simp_all; done) | (simp_all; done) | (simp_all; omega))) fun _ => ?_; (try simp [h2, h2', hwc]))
        refine hq 5 [(17, 104)] _ (by omega) (by omega) ?_
        simp [rowN, rowM, range_succ', leEls_refl]
        done
      · simp at h3
    · have h2' : (5 : Int) < t.length := by omega
      simp only [rowN, rowM, range_succ', List.range_zero, List.nil_append, List.map_append, List.map_cons, List.map_nil, List.cons_append]
      try simp [h2, h2']
      repeat (refine PreK.intro (by first | omega | (intros; first | omega | (refine ⟨by omega, ?_⟩; simp_all; done) | (simp_all; done) | (simp_all; omega))) fun _ => ?_; (try simp [h2, h2']))
      refine CondK.intro (fun h3 => ?_) (fun h3 => ?_)
      · try simp [h2, h2', hwc]
        repeat (refine PreK.intro (by first | omega | (intros; first | omega | (refine ⟨by omega, ?_⟩; simp_all; done) | (simp_all; done) | (simp_all; omega))) fun _ => ?_; (try simp [h2, h2', hwc]))
        refine hq 6 [(17, 105)] _ (by omega) (by omega) ?_
        simp [rowN, rowM, range_succ', leEls_refl]
        done
      · simp at h3
  · have : i = t.length := by omega
    subst this
    have hn : t.length = 1 ∨ t.length = 2 ∨ t.length = 3 ∨ t.length = 4 ∨ t.length = 5 ∨ t.length = 6 := by omega
    try simp 
    refine CondK.intro (fun h3 => ?_) (fun h3 => ?_)
    · simp at h3
    · try simp 
      apply he
      try simp 
      repeat (refine PreK.intro (by first | omega | (intros; first | omega | (refine ⟨by omega, ?_⟩; simp_all; done) | (simp_all; done) | (simp_all; omega))) fun _ => ?_; (try simp ))
      refine ⟨[], ?_⟩
      rcases hn with h | h | h | h | h | h <;> simp [h, rowN, rowM, range_succ'] <;> done
end Go.Proofs.Ytnpkaemlidifgaa
end

section
/- Contracts: readings that are written otherwise (stemma.Spell, whose result owns its rows; ref07.Spell). (written by mkspell2.py) -/
namespace Go.Proofs.Ytnpkaemlidifgaa
open Go.Abs Go
set_option maxRecDepth 20000
set_option maxHeartbeats 8000000
attribute [local irreducible] PreK CondK CallK CallG CallX LoopK
/- PURSE -/
attribute [local simp] avsEq avEq akind teq vkind vEq

theorem placed_isS {t : List (List Int)} (h : Rds t) (hv : vErr t = 0) {p : Nat} (hp : p < wid t) : placedErr t [(p : Int)] = 0 := by
  unfold placedErr
  rw [if_neg (by simp [hv])]
  simp [noPlace]
  omega
def spX (t : List (List Int)) (p : Nat) (to : List Int) (j : Nat) : List Int := (el t j).set p (el to (el (el t j) p).toNat)
def namX (t : List (List Int)) (n : Nat) : List AV := (List.range n).map fun j => .sl (1100 + j) 1 0 (el t j).length
def rowX (t : List (List Int)) (p : Nat) (to : List Int) (n i : Nat) : List (Nat × Option Box) := (List.range n).map fun j => (1100 + j, some ⟨1, if j < i then (spX t p to j).map iv else (el t j).map iv, 1, false⟩)
theorem CM54 {args : List AV} {r : AV} {m' : List (Nat × Option Box)} (hn : args.length ≤ 57) (h : vc Try.prog T [] A54 (FinM T [(.tmp 6), (.tmp 7)] r m') ⟨envOf 0 args, []⟩) : CallM Try.prog 54 args r m' :=
  callM_of tok mixed Try.func54 (by kernel_rfl) (by kernel_rfl) (by kernel_rfl : Try.f54.ntmps = 57) (by kernel_rfl : Try.f54.body.bind (strip 57 (fun _ => [])) = some A54) hn h
theorem Spell_m (t : List (List Int)) (p : Nat) (to : List Int) (hs : Sm t) (hv : vErr t = 0) (hp : p < wid t) (hto : toErr to = 0) :
    CallM Try.prog 54 [rdsV t, iv (p : Int), ints to] (.tup [.sl 1008 1 0 t.length, iv 0]) ((1008, some ⟨1, namX t t.length, 1, true⟩) :: rowX t p to t.length t.length) := by
  refine CM54 (by simp) ?_
  have hrd := vErr_zero hv
  have hsp := toErr_zero hto
  have hpl := placed_c t [(p : Int)] hs (by simp)
  rw [placed_isS hrd hv hp] at hpl
  have h3 := hsp.len
  have h3' : (to.length : Int) = 3 := by omega
  have h4 : diffN to = 3 := by
    refine Decidable.by_contra fun h => ?_
    unfold toErr at hto
    rw [if_neg (by simpa using h3), if_pos h] at hto
    cases hto
  have h5 : (to.any fun n => !okR n) = false := by
    cases h : to.any fun n => !okR n with
    | false => rfl
    | true =>
      unfold toErr at hto
      rw [if_neg (by simpa using h3), if_neg (by simpa using h4), if_pos h] at hto
      cases hto
  have hd := different_c to (by omega)
  have hcf := containsFunc_c to (by simp only [big]; omega) 86 [] (fun n => !okR n) notReadingS_c (by simp [snapL]) (by simp [AV.refsL]) (by simp [snapOKL])
  rw [h5] at hcf
  have hnum := hrd.num
  have hpos := hrd.pos
  have hw6 := hrd.w6
  have hrw : ∀ j, j < t.length → (el t j).length = wid t := fun j hj => hrd.row hj
  have hval : ∀ j, j < t.length → ∃ x : Nat, el (el t j) p = (x : Int) ∧ x < 3 := by
    intro j hj
    obtain ⟨h6, h7⟩ := hrd.val hj hp
    exact ⟨(el (el t j) p).toNat, by omega, by omega⟩
  have hcm := copied_m t (by omega) (by omega) (fun j => by have := hs.el j; omega)
  simp [A54]
  try simp 
  repeat' (first
    | (refine CallX.pure (hpl) (by simp) (by simp) ?_; try simp )
    | (refine CallK.intro (hpl) (by simp) (by simp) ?_; try simp )
    | (refine CallG.intro (fun _ => hpl) (by simp) (by simp) ?_; try simp )
    | ((with_reducible refine PreK.intro ?_ ?_); (next => (first | omega | (intros; first | omega | (refine ⟨by omega, ?_⟩; repeat (first | assumption | constructor)) | assumption))); intro _; try simp )
    | fail)
  try simp 
  repeat (refine PreK.intro (by first | omega | (intros; first | omega | (refine ⟨by omega, ?_⟩; simp_all; done) | (simp_all; done) | (simp_all; omega))) fun _ => ?_; (try simp ))
  refine CondK.ff ?_
  try simp 
  try simp [h3, h3', h4]
  repeat' (first
    | (refine CallX.pure (hd) (by simp) (by simp) ?_; try simp [h3, h3', h4])
    | (refine CallK.intro (hd) (by simp) (by simp) ?_; try simp [h3, h3', h4])
    | (refine CallG.intro (fun _ => hd) (by simp) (by simp) ?_; try simp [h3, h3', h4])
    | ((with_reducible refine PreK.intro ?_ ?_); (next => (first | omega | (intros; first | omega | (refine ⟨by omega, ?_⟩; repeat (first | assumption | constructor)) | assumption))); intro _; try simp [h3, h3', h4])
    | fail)
  try simp [h3, h3', h4]
  repeat' (first
    | (refine CallX.pure (hcf) (by simp) (by simp) ?_; try simp [h3, h3', h4])
    | (refine CallK.intro (hcf) (by simp) (by simp) ?_; try simp [h3, h3', h4])
    | (refine CallG.intro (fun _ => hcf) (by simp) (by simp) ?_; try simp [h3, h3', h4])
    | ((with_reducible refine PreK.intro ?_ ?_); (next => (first | omega | (intros; first | omega | (refine ⟨by omega, ?_⟩; repeat (first | assumption | constructor)) | assumption))); intro _; try simp [h3, h3', h4])
    | fail)
  try simp 
  repeat (refine PreK.intro (by first | omega | (intros; first | omega | (refine ⟨by omega, ?_⟩; simp_all; done) | (simp_all; done) | (simp_all; omega))) fun _ => ?_; (try simp ))
  refine CondK.ff ?_
  try simp 
  try simp 
  repeat (refine PreK.intro (by first | omega | (intros; first | omega | (refine ⟨by omega, ?_⟩; simp_all; done) | (simp_all; done) | (simp_all; omega))) fun _ => ?_; (try simp ))
  have hn : t.length = 1 ∨ t.length = 2 ∨ t.length = 3 ∨ t.length = 4 ∨ t.length = 5 ∨ t.length = 6 := by omega
  rcases hn with hn | hn | hn | hn | hn | hn
  · rw [hn] at hcm hrw hval ⊢
    simp only [rowN, rowM] at hcm
    refine CallX.mem 1000 hcm (by simp) (by simp [range_succ']) (by simp [range_succ']) ?_
    simp [range_succ']
    try simp 
    repeat (refine PreK.intro (by first | omega | (intros; first | omega | (refine ⟨by omega, ?_⟩; simp_all; done) | (simp_all; done) | (simp_all; omega))) fun _ => ?_; (try simp ))
    refine LoopK.by (ι := Nat) (fun i => ⟨[(36, iv i), (35, iv 1), (9, .sl 1008 1 0 1), (1, iv (p : Int)), (2, ints to)], (1008, some ⟨1, namX t 1, 1, true⟩) :: rowX t p to 1 i⟩) (fun i => 1 - i) (fun i => i ≤ 1) 0 (Nat.zero_le _) (by simp [namX, rowX, range_succ', leEls_refl]) ?_
    intro i Q' hi hq he hr'
    have hi6 : i = 0 ∨ i = 1 := by omega
    rcases hi6 with rfl | rfl
    · obtain ⟨x, hx, hx3⟩ := hval 0 (by omega)
      have hrl := hrw 0 (by omega)
      have hpl2 : p < (el t 0).length := by omega
      have hxl : x < to.length := by omega
      simp [namX, rowX, range_succ']
      try simp 
      repeat (refine PreK.intro (by first | omega | (intros; first | omega | (refine ⟨by omega, ?_⟩; simp_all; done) | (simp_all; done) | (simp_all; omega))) fun _ => ?_; (try simp ))
      refine CondK.intro (fun h6 => ?_) (fun h6 => ?_)
      · try simp [hx, hpl2, hxl]
        repeat (refine PreK.intro (by first | omega | (intros; first | omega | (refine ⟨by omega, ?_⟩; simp_all; done) | (simp_all; done) | (simp_all; omega))) fun _ => ?_; (try simp [hx, hpl2, hxl]))
        exact hq 1 _ (by omega) (by omega) (by simp [namX, rowX, spX, hx, range_succ', leEls_refl])
      · simp at h6
    · simp [namX, rowX, range_succ']
      try simp 
      repeat (refine PreK.intro (by first | omega | (intros; first | omega | (refine ⟨by omega, ?_⟩; simp_all; done) | (simp_all; done) | (simp_all; omega))) fun _ => ?_; (try simp ))
      refine CondK.intro (fun h6 => ?_) (fun h6 => ?_)
      · simp at h6
      · apply he
        try simp 
        repeat (refine PreK.intro (by first | omega | (intros; first | omega | (refine ⟨by omega, ?_⟩; simp_all; done) | (simp_all; done) | (simp_all; omega))) fun _ => ?_; (try simp ))
        refine ⟨[], ?_⟩
        simp [namX, rowX, range_succ']
  · rw [hn] at hcm hrw hval ⊢
    simp only [rowN, rowM] at hcm
    refine CallX.mem 1000 hcm (by simp) (by simp [range_succ']) (by simp [range_succ']) ?_
    simp [range_succ']
    try simp 
    repeat (refine PreK.intro (by first | omega | (intros; first | omega | (refine ⟨by omega, ?_⟩; simp_all; done) | (simp_all; done) | (simp_all; omega))) fun _ => ?_; (try simp ))
    refine LoopK.by (ι := Nat) (fun i => ⟨[(36, iv i), (35, iv 2), (9, .sl 1008 1 0 2), (1, iv (p : Int)), (2, ints to)], (1008, some ⟨1, namX t 2, 1, true⟩) :: rowX t p to 2 i⟩) (fun i => 2 - i) (fun i => i ≤ 2) 0 (Nat.zero_le _) (by simp [namX, rowX, range_succ', leEls_refl]) ?_
    intro i Q' hi hq he hr'
    have hi6 : i = 0 ∨ i = 1 ∨ i = 2 := by omega
    rcases hi6 with rfl | rfl | rfl
    · obtain ⟨x, hx, hx3⟩ := hval 0 (by omega)
      have hrl := hrw 0 (by omega)
      have hpl2 : p < (el t 0).length := by omega
      have hxl : x < to.length := by omega
      simp [namX, rowX, range_succ']
      try simp 
      repeat (refine PreK.intro (by first | omega | (intros; first | omega | (refine ⟨by omega, ?_⟩; simp_all; done) | (simp_all; done) | (simp_all; omega))) fun _ => ?_; (try simp ))
      refine CondK.intro (fun h6 => ?_) (fun h6 => ?_)
      · try simp [hx, hpl2, hxl]
        repeat (refine PreK.intro (by first | omega | (intros; first | omega | (refine ⟨by omega, ?_⟩; simp_all; done) | (simp_all; done) | (simp_all; omega))) fun _ => ?_; (try simp [hx, hpl2, hxl]))
        exact hq 1 _ (by omega) (by omega) (by simp [namX, rowX, spX, hx, range_succ', leEls_refl])
      · simp at h6
    · obtain ⟨x, hx, hx3⟩ := hval 1 (by omega)
      have hrl := hrw 1 (by omega)
      have hpl2 : p < (el t 1).length := by omega
      have hxl : x < to.length := by omega
      simp [namX, rowX, range_succ']
      try simp 
      repeat (refine PreK.intro (by first | omega | (intros; first | omega | (refine ⟨by omega, ?_⟩; simp_all; done) | (simp_all; done) | (simp_all; omega))) fun _ => ?_; (try simp ))
      refine CondK.intro (fun h6 => ?_) (fun h6 => ?_)
      · try simp [hx, hpl2, hxl]
        repeat (refine PreK.intro (by first | omega | (intros; first | omega | (refine ⟨by omega, ?_⟩; simp_all; done) | (simp_all; done) | (simp_all; omega))) fun _ => ?_; (try simp [hx, hpl2, hxl]))
        exact hq 2 _ (by omega) (by omega) (by simp [namX, rowX, spX, hx, range_succ', leEls_refl])
      · simp at h6
    · simp [namX, rowX, range_succ']
      try simp 
      repeat (refine PreK.intro (by first | omega | (intros; first | omega | (refine ⟨by omega, ?_⟩; simp_all; done) | (simp_all; done) | (simp_all; omega))) fun _ => ?_; (try simp ))
      refine CondK.intro (fun h6 => ?_) (fun h6 => ?_)
      · simp at h6
      · apply he
        try simp 
        repeat (refine PreK.intro (by first | omega | (intros; first | omega | (refine ⟨by omega, ?_⟩; simp_all; done) | (simp_all; done) | (simp_all; omega))) fun _ => ?_; (try simp ))
        refine ⟨[], ?_⟩
        simp [namX, rowX, range_succ']
  · rw [hn] at hcm hrw hval ⊢
    simp only [rowN, rowM] at hcm
    refine CallX.mem 1000 hcm (by simp) (by simp [range_succ']) (by simp [range_succ']) ?_
    simp [range_succ']
    try simp 
    repeat (refine PreK.intro (by first | omega | (intros; first | omega | (refine ⟨by omega, ?_⟩; simp_all; done) | (simp_all; done) | (simp_all; omega))) fun _ => ?_; (try simp ))
    refine LoopK.by (ι := Nat) (fun i => ⟨[(36, iv i), (35, iv 3), (9, .sl 1008 1 0 3), (1, iv (p : Int)), (2, ints to)], (1008, some ⟨1, namX t 3, 1, true⟩) :: rowX t p to 3 i⟩) (fun i => 3 - i) (fun i => i ≤ 3) 0 (Nat.zero_le _) (by simp [namX, rowX, range_succ', leEls_refl]) ?_
    intro i Q' hi hq he hr'
    have hi6 : i = 0 ∨ i = 1 ∨ i = 2 ∨ i = 3 := by omega
    rcases hi6 with rfl | rfl | rfl | rfl
    · obtain ⟨x, hx, hx3⟩ := hval 0 (by omega)
      have hrl := hrw 0 (by omega)
      have hpl2 : p < (el t 0).length := by omega
      have hxl : x < to.length := by omega
      simp [namX, rowX, range_succ']
      try simp 
      repeat (refine PreK.intro (by first | omega | (intros; first | omega | (refine ⟨by omega, ?_⟩; simp_all; done) | (simp_all; done) | (simp_all; omega))) fun _ => ?_; (try simp ))
      refine CondK.intro (fun h6 => ?_) (fun h6 => ?_)
      · try simp [hx, hpl2, hxl]
        repeat (refine PreK.intro (by first | omega | (intros; first | omega | (refine ⟨by omega, ?_⟩; simp_all; done) | (simp_all; done) | (simp_all; omega))) fun _ => ?_; (try simp [hx, hpl2, hxl]))
        exact hq 1 _ (by omega) (by omega) (by simp [namX, rowX, spX, hx, range_succ', leEls_refl])
      · simp at h6
    · obtain ⟨x, hx, hx3⟩ := hval 1 (by omega)
      have hrl := hrw 1 (by omega)
      have hpl2 : p < (el t 1).length := by omega
      have hxl : x < to.length := by omega
      simp [namX, rowX, range_succ']
      try simp 
      repeat (refine PreK.intro (by first | omega | (intros; first | omega | (refine ⟨by omega, ?_⟩; simp_all; done) | (simp_all; done) | (simp_all; omega))) fun _ => ?_; (try simp ))
      refine CondK.intro (fun h6 => ?_) (fun h6 => ?_)
      · try simp [hx, hpl2, hxl]
        repeat (refine PreK.intro (by first | omega | (intros; first | omega | (refine ⟨by omega, ?_⟩; simp_all; done) | (simp_all; done) | (simp_all; omega))) fun _ => ?_; (try simp [hx, hpl2, hxl]))
        exact hq 2 _ (by omega) (by omega) (by simp [namX, rowX, spX, hx, range_succ', leEls_refl])
      · simp at h6
    · obtain ⟨x, hx, hx3⟩ := hval 2 (by omega)
      have hrl := hrw 2 (by omega)
      have hpl2 : p < (el t 2).length := by omega
      have hxl : x < to.length := by omega
      simp [namX, rowX, range_succ']
      try simp 
      repeat (refine PreK.intro (by first | omega | (intros; first | omega | (refine ⟨by omega, ?_⟩; simp_all; done) | (simp_all; done) | (simp_all; omega))) fun _ => ?_; (try simp ))
      refine CondK.intro (fun h6 => ?_) (fun h6 => ?_)
      · try simp [hx, hpl2, hxl]
        repeat (refine PreK.intro (by first | omega | (intros; first | omega | (refine ⟨by omega, ?_⟩; simp_all; done) | (simp_all; done) | (simp_all; omega))) fun _ => ?_; (try simp [hx, hpl2, hxl]))
        exact hq 3 _ (by omega) (by omega) (by simp [namX, rowX, spX, hx, range_succ', leEls_refl])
      · simp at h6
    · simp [namX, rowX, range_succ']
      try simp 
      repeat (refine PreK.intro (by first | omega | (intros; first | omega | (refine ⟨by omega, ?_⟩; simp_all; done) | (simp_all; done) | (simp_all; omega))) fun _ => ?_; (try simp ))
      refine CondK.intro (fun h6 => ?_) (fun h6 => ?_)
      · simp at h6
      · apply he
        try simp 
        repeat (refine PreK.intro (by first | omega | (intros; first | omega | (refine ⟨by omega, ?_⟩; simp_all; done) | (simp_all; done) | (simp_all; omega))) fun _ => ?_; (try simp ))
        refine ⟨[], ?_⟩
        simp [namX, rowX, range_succ']
  · rw [hn] at hcm hrw hval ⊢
    simp only [rowN, rowM] at hcm
    refine CallX.mem 1000 hcm (by simp) (by simp [range_succ']) (by simp [range_succ']) ?_
    simp [range_succ']
    try simp 
    repeat (refine PreK.intro (by first | omega | (intros; first | omega | (refine ⟨by omega, ?_⟩; simp_all; done) | (simp_all; done) | (simp_all; omega))) fun _ => ?_; (try simp ))
    refine LoopK.by (ι := Nat) (fun i => ⟨[(36, iv i), (35, iv 4), (9, .sl 1008 1 0 4), (1, iv (p : Int)), (2, ints to)], (1008, some ⟨1, namX t 4, 1, true⟩) :: rowX t p to 4 i⟩) (fun i => 4 - i) (fun i => i ≤ 4) 0 (Nat.zero_le _) (by simp [namX, rowX, range_succ', leEls_refl]) ?_
    intro i Q' hi hq he hr'
    have hi6 : i = 0 ∨ i = 1 ∨ i = 2 ∨ i = 3 ∨ i = 4 := by omega
    rcases hi6 with rfl | rfl | rfl | rfl | rfl
    · obtain ⟨x, hx, hx3⟩ := hval 0 (by omega)
      have hrl := hrw 0 (by omega)
      have hpl2 : p < (el t 0).length := by omega
      have hxl : x < to.length := by omega
      simp [namX, rowX, range_succ']
      try simp 
      repeat (refine PreK.intro (by first | omega | (intros; first | omega | (refine ⟨by omega, ?_⟩; simp_all; done) | (simp_all; done) | (simp_all; omega))) fun _ => ?_; (try simp ))
      refine CondK.intro (fun h6 => ?_) (fun h6 => ?_)
      · try simp [hx, hpl2, hxl]
        repeat (refine PreK.intro (by first | omega | (intros; first | omega | (refine ⟨by omega, ?_⟩; simp_all; done) | (simp_all; done) | (simp_all; omega))) fun _ => ?_; (try simp [hx, hpl2, hxl]))
        exact hq 1 _ (by omega) (by omega) (by simp [namX, rowX, spX, hx, range_succ', leEls_refl])
      · simp at h6
    · obtain ⟨x, hx, hx3⟩ := hval 1 (by omega)
      have hrl := hrw 1 (by omega)
      have hpl2 : p < (el t 1).length := by omega
      have hxl : x < to.length := by omega
      simp [namX, rowX, range_succ']
      try simp 
      repeat (refine PreK.intro (by first | omega | (intros; first | omega | (refine ⟨by omega, ?_⟩; simp_all; done) | (simp_all; done) | (simp_all; omega))) fun _ => ?_; (try simp ))
      refine CondK.intro (fun h6 => ?_) (fun h6 => ?_)
      · try simp [hx, hpl2, hxl]
        repeat (refine PreK.intro (by first | omega | (intros; first | omega | (refine ⟨by omega, ?_⟩; simp_all; done) | (simp_all; done) | (simp_all; omega))) fun _ => ?_; (try simp [hx, hpl2, hxl]))
        exact hq 2 _ (by omega) (by omega) (by simp [namX, rowX, spX, hx, range_succ', leEls_refl])
      · simp at h6
    · obtain ⟨x, hx, hx3⟩ := hval 2 (by omega)
      have hrl := hrw 2 (by omega)
      have hpl2 : p < (el t 2).length := by omega
      have hxl : x < to.length := by omega
      simp [namX, rowX, range_succ']
      try simp 
      repeat (refine PreK.intro (by first | omega | (intros; first | omega | (refine ⟨by omega, ?_⟩; simp_all; done) | (simp_all; done) | (simp_all; omega))) fun _ => ?_; (try simp ))
      refine CondK.intro (fun h6 => ?_) (fun h6 => ?_)
      · try simp [hx, hpl2, hxl]
        repeat (refine PreK.intro (by first | omega | (intros; first | omega | (refine ⟨by omega, ?_⟩; simp_all; done) | (simp_all; done) | (simp_all; omega))) fun _ => ?_; (try simp [hx, hpl2, hxl]))
        exact hq 3 _ (by omega) (by omega) (by simp [namX, rowX, spX, hx, range_succ', leEls_refl])
      · simp at h6
    · obtain ⟨x, hx, hx3⟩ := hval 3 (by omega)
      have hrl := hrw 3 (by omega)
      have hpl2 : p < (el t 3).length := by omega
      have hxl : x < to.length := by omega
      simp [namX, rowX, range_succ']
      try simp 
      repeat (refine PreK.intro (by first | omega | (intros; first | omega | (refine ⟨by omega, ?_⟩; simp_all; done) | (simp_all; done) | (simp_all; omega))) fun _ => ?_; (try simp ))
      refine CondK.intro (fun h6 => ?_) (fun h6 => ?_)
      · try simp [hx, hpl2, hxl]
        repeat (refine PreK.intro (by first | omega | (intros; first | omega | (refine ⟨by omega, ?_⟩; simp_all; done) | (simp_all; done) | (simp_all; omega))) fun _ => ?_; (try simp [hx, hpl2, hxl]))
        exact hq 4 _ (by omega) (by omega) (by simp [namX, rowX, spX, hx, range_succ', leEls_refl])
      · simp at h6
    · simp [namX, rowX, range_succ']
      try simp 
      repeat (refine PreK.intro (by first | omega | (intros; first | omega | (refine ⟨by omega, ?_⟩; simp_all; done) | (simp_all; done) | (simp_all; omega))) fun _ => ?_; (try simp ))
      refine CondK.intro (fun h6 => ?_) (fun h6 => ?_)
      · simp at h6
      · apply he
        try simp 
        repeat (refine PreK.intro (by first | omega | (intros; first | omega | (refine ⟨by omega, ?_⟩; simp_all; done) | (simp_all; done) | (simp_all; omega))) fun _ => ?_; (try simp ))
        refine ⟨[], ?_⟩
        simp [namX, rowX, range_succ']
  · rw [hn] at hcm hrw hval ⊢
    simp only [rowN, rowM] at hcm
    refine CallX.mem 1000 hcm (by simp) (by simp [range_succ']) (by simp [range_succ']) ?_
    simp [range_succ']
    try simp 
    repeat (refine PreK.intro (by first | omega | (intros; first | omega | (refine ⟨by omega, ?_⟩; simp_all; done) | (simp_all; done) | (simp_all; omega))) fun _ => ?_; (try simp ))
    refine LoopK.by (ι := Nat) (fun i => ⟨[(36, iv i), (35, iv 5), (9, .sl 1008 1 0 5), (1, iv (p : Int)), (2, ints to)], (1008, some ⟨1, namX t 5, 1, true⟩) :: rowX t p to 5 i⟩) (fun i => 5 - i) (fun i => i ≤ 5) 0 (Nat.zero_le _) (by simp [namX, rowX, range_succ', leEls_refl]) ?_
    intro i Q' hi hq he hr'
    have hi6 : i = 0 ∨ i = 1 ∨ i = 2 ∨ i = 3 ∨ i = 4 ∨ i = 5 := by omega
    rcases hi6 with rfl | rfl | rfl | rfl | rfl | rfl
    · obtain ⟨x, hx, hx3⟩ := hval 0 (by omega)
      have hrl := hrw 0 (by omega)
      have hpl2 : p < (el t 0).length := by omega
      have hxl : x < to.length := by omega
      simp [namX, rowX, range_succ']
      try simp 
      repeat (refine PreK.intro (by first | omega | (intros; first | omega | (refine ⟨by omega, ?_⟩; simp_all; done) | (simp_all; done) | (simp_all; omega))) fun _ => ?_; (try simp ))
      refine CondK.intro (fun h6 => ?_) (fun h6 => ?_)
      · try simp [hx, hpl2, hxl]
        repeat (refine PreK.intro (by first | omega | (intros; first | omega | (refine ⟨by omega, ?_⟩; simp_all; done) | (simp_all; done) | (simp_all; omega))) fun _ => ?_; (try simp [hx, hpl2, hxl]))
        exact hq 1 _ (by omega) (by omega) (by simp [namX, rowX, spX, hx, range_succ', leEls_refl])
      · simp at h6
    · obtain ⟨x, hx, hx3⟩ := hval 1 (by omega)
      have hrl := hrw 1 (by omega)
      have hpl2 : p < (el t 1).length := by omega
      have hxl : x < to.length := by omega
      simp [namX, rowX, range_succ']
      try simp 
      repeat (refine PreK.intro (by first | omega | (intros; first | omega | (refine ⟨by omega, ?_⟩; simp_all; done) | (simp_all; done) | (simp_all; omega))) fun _ => ?_; (try simp ))
      refine CondK.intro (fun h6 => ?_) (fun h6 => ?_)
      · try simp [hx, hpl2, hxl]
        repeat (refine PreK.intro (by first | omega | (intros; first | omega | (refine ⟨by omega, ?_⟩; simp_all; done) | (simp_all; done) | (simp_all; omega))) fun _ => ?_; (try simp [hx, hpl2, hxl]))
        exact hq 2 _ (by omega) (by omega) (by simp [namX, rowX, spX, hx, range_succ', leEls_refl])
      · simp at h6
    · obtain ⟨x, hx, hx3⟩ := hval 2 (by omega)
      have hrl := hrw 2 (by omega)
      have hpl2 : p < (el t 2).length := by omega
      have hxl : x < to.length := by omega
      simp [namX, rowX, range_succ']
      try simp 
      repeat (refine PreK.intro (by first | omega | (intros; first | omega | (refine ⟨by omega, ?_⟩; simp_all; done) | (simp_all; done) | (simp_all; omega))) fun _ => ?_; (try simp ))
      refine CondK.intro (fun h6 => ?_) (fun h6 => ?_)
      · try simp [hx, hpl2, hxl]
        repeat (refine PreK.intro (by first | omega | (intros; first | omega | (refine ⟨by omega, ?_⟩; simp_all; done) | (simp_all; done) | (simp_all; omega))) fun _ => ?_; (try simp [hx, hpl2, hxl]))
        exact hq 3 _ (by omega) (by omega) (by simp [namX, rowX, spX, hx, range_succ', leEls_refl])
      · simp at h6
    · obtain ⟨x, hx, hx3⟩ := hval 3 (by omega)
      have hrl := hrw 3 (by omega)
      have hpl2 : p < (el t 3).length := by omega
      have hxl : x < to.length := by omega
      simp [namX, rowX, range_succ']
      try simp 
      repeat (refine PreK.intro (by first | omega | (intros; first | omega | (refine ⟨by omega, ?_⟩; simp_all; done) | (simp_all; done) | (simp_all; omega))) fun _ => ?_; (try simp ))
      refine CondK.intro (fun h6 => ?_) (fun h6 => ?_)
      · try simp [hx, hpl2, hxl]
        repeat (refine PreK.intro (by first | omega | (intros; first | omega | (refine ⟨by omega, ?_⟩; simp_all; done) | (simp_all; done) | (simp_all; omega))) fun _ => ?_; (try simp [hx, hpl2, hxl]))
        exact hq 4 _ (by omega) (by omega) (by simp [namX, rowX, spX, hx, range_succ', leEls_refl])
      · simp at h6
    · obtain ⟨x, hx, hx3⟩ := hval 4 (by omega)
      have hrl := hrw 4 (by omega)
      have hpl2 : p < (el t 4).length := by omega
      have hxl : x < to.length := by omega
      simp [namX, rowX, range_succ']
      try simp 
      repeat (refine PreK.intro (by first | omega | (intros; first | omega | (refine ⟨by omega, ?_⟩; simp_all; done) | (simp_all; done) | (simp_all; omega))) fun _ => ?_; (try simp ))
      refine CondK.intro (fun h6 => ?_) (fun h6 => ?_)
      · try simp [hx, hpl2, hxl]
        repeat (refine PreK.intro (by first | omega | (intros; first | omega | (refine ⟨by omega, ?_⟩; simp_all; done) | (simp_all; done) | (simp_all; omega))) fun _ => ?_; (try simp [hx, hpl2, hxl]))
        exact hq 5 _ (by omega) (by omega) (by simp [namX, rowX, spX, hx, range_succ', leEls_refl])
      · simp at h6
    · simp [namX, rowX, range_succ']
      try simp 
      repeat (refine PreK.intro (by first | omega | (intros; first | omega | (refine ⟨by omega, ?_⟩; simp_all; done) | (simp_all; done) | (simp_all; omega))) fun _ => ?_; (try simp ))
      refine CondK.intro (fun h6 => ?_) (fun h6 => ?_)
      · simp at h6
      · apply he
        try simp 
        repeat (refine PreK.intro (by first | omega | (intros; first | omega | (refine ⟨by omega, ?_⟩; simp_all; done) | (simp_all; done) | (simp_all; omega))) fun _ => ?_; (try simp ))
        refine ⟨[], ?_⟩
        simp [namX, rowX, range_succ']
  · rw [hn] at hcm hrw hval ⊢
    simp only [rowN, rowM] at hcm
    refine CallX.mem 1000 hcm (by simp) (by simp [range_succ']) (by simp [range_succ']) ?_
    simp [range_succ']
    try simp 
    repeat (refine PreK.intro (by first | omega | (intros; first | omega | (refine ⟨by omega, ?_⟩; simp_all; done) | (simp_all; done) | (simp_all; omega))) fun _ => ?_; (try simp ))
    refine LoopK.by (ι := Nat) (fun i => ⟨[(36, iv i), (35, iv 6), (9, .sl 1008 1 0 6), (1, iv (p : Int)), (2, ints to)], (1008, some ⟨1, namX t 6, 1, true⟩) :: rowX t p to 6 i⟩) (fun i => 6 - i) (fun i => i ≤ 6) 0 (Nat.zero_le _) (by simp [namX, rowX, range_succ', leEls_refl]) ?_
    intro i Q' hi hq he hr'
    have hi6 : i = 0 ∨ i = 1 ∨ i = 2 ∨ i = 3 ∨ i = 4 ∨ i = 5 ∨ i = 6 := by omega
    rcases hi6 with rfl | rfl | rfl | rfl | rfl | rfl | rfl
    · obtain ⟨x, hx, hx3⟩ := hval 0 (by omega)
      have hrl := hrw 0 (by omega)
      have hpl2 : p < (el t 0).length := by omega
      have hxl : x < to.length := by omega
      simp [namX, rowX, range_succ']
      try simp 
      repeat (refine PreK.intro (by first | omega | (intros; first | omega | (refine ⟨by omega, ?_⟩; simp_all; done) | (simp_all; done) | (simp_all; omega))) fun _ => ?_; (try simp ))
      refine CondK.intro (fun h6 => ?_) (fun h6 => ?_)
      · try simp [hx, hpl2, hxl]
        repeat (refine PreK.intro (by first | omega | (intros; first | omega | (refine ⟨by omega, ?_⟩; simp_all; done) | (simp_all; done) | (simp_all; omega))) fun _ => ?_; (try simp [hx, hpl2, hxl]))
        exact hq 1 _ (by omega) (by omega) (by simp [namX, rowX, spX, hx, range_succ', leEls_refl])
      · simp at h6
    · obtain ⟨x, hx, hx3⟩ := hval 1 (by omega)
      have hrl := hrw 1 (by omega)
      have hpl2 : p < (el t 1).length := by omega
      have hxl : x < to.length := by omega
      simp [namX, rowX, range_succ']
      try simp 
      repeat (refine PreK.intro (by first | omega | (intros; first | omega | (refine ⟨by omega, ?_⟩; simp_all; done) | (simp_all; done) | (simp_all; omega))) fun _ => ?_; (try simp ))
      refine CondK.intro (fun h6 => ?_) (fun h6 => ?_)
      · try simp [hx, hpl2, hxl]
        repeat (refine PreK.intro (by first | omega | (intros; first | omega | (refine ⟨by omega, ?_⟩; simp_all; done) | (simp_all; done) | (simp_all; omega))) fun _ => ?_; (try simp [hx, hpl2, hxl]))
        exact hq 2 _ (by omega) (by omega) (by simp [namX, rowX, spX, hx, range_succ', leEls_refl])
      · simp at h6
    · obtain ⟨x, hx, hx3⟩ := hval 2 (by omega)
      have hrl := hrw 2 (by omega)
      have hpl2 : p < (el t 2).length := by omega
      have hxl : x < to.length := by omega
      simp [namX, rowX, range_succ']
      try simp 
      repeat (refine PreK.intro (by first | omega | (intros; first | omega | (refine ⟨by omega, ?_⟩; simp_all; done) | (simp_all; done) | (simp_all; omega))) fun _ => ?_; (try simp ))
      refine CondK.intro (fun h6 => ?_) (fun h6 => ?_)
      · try simp [hx, hpl2, hxl]
        repeat (refine PreK.intro (by first | omega | (intros; first | omega | (refine ⟨by omega, ?_⟩; simp_all; done) | (simp_all; done) | (simp_all; omega))) fun _ => ?_; (try simp [hx, hpl2, hxl]))
        exact hq 3 _ (by omega) (by omega) (by simp [namX, rowX, spX, hx, range_succ', leEls_refl])
      · simp at h6
    · obtain ⟨x, hx, hx3⟩ := hval 3 (by omega)
      have hrl := hrw 3 (by omega)
      have hpl2 : p < (el t 3).length := by omega
      have hxl : x < to.length := by omega
      simp [namX, rowX, range_succ']
      try simp 
      repeat (refine PreK.intro (by first | omega | (intros; first | omega | (refine ⟨by omega, ?_⟩; simp_all; done) | (simp_all; done) | (simp_all; omega))) fun _ => ?_; (try simp ))
      refine CondK.intro (fun h6 => ?_) (fun h6 => ?_)
      · try simp [hx, hpl2, hxl]
        repeat (refine PreK.intro (by first | omega | (intros; first | omega | (refine ⟨by omega, ?_⟩; simp_all; done) | (simp_all; done) | (simp_all; omega))) fun _ => ?_; (try simp [hx, hpl2, hxl]))
        exact hq 4 _ (by omega) (by omega) (by simp [namX, rowX, spX, hx, range_succ', leEls_refl])
      · simp at h6
    · obtain ⟨x, hx, hx3⟩ := hval 4 (by omega)
      have hrl := hrw 4 (by omega)
      have hpl2 : p < (el t 4).length := by omega
      have hxl : x < to.length := by omega
      simp [namX, rowX, range_succ']
      try simp 
      repeat (refine PreK.intro (by first | omega | (intros; first | omega | (refine ⟨by omega, ?_⟩; simp_all; done) | (simp_all; done) | (simp_all; omega))) fun _ => ?_; (try simp ))
      refine CondK.intro (fun h6 => ?_) (fun h6 => ?_)
      · try simp [hx, hpl2, hxl]
        repeat (refine PreK.intro (by first | omega | (intros; first | omega | (refine ⟨by omega, ?_⟩; simp_all; done) | (simp_all; done) | (simp_all; omega))) fun _ => ?_; (try simp [hx, hpl2, hxl]))
        exact hq 5 _ (by omega) (by omega) (by simp [namX, rowX, spX, hx, range_succ', leEls_refl])
      · simp at h6
    · obtain ⟨x, hx, hx3⟩ := hval 5 (by omega)
      have hrl := hrw 5 (by omega)
      have hpl2 : p < (el t 5).length := by omega
      have hxl : x < to.length := by omega
      simp [namX, rowX, range_succ']
      try simp 
      repeat (refine PreK.intro (by first | omega | (intros; first | omega | (refine ⟨by omega, ?_⟩; simp_all; done) | (simp_all; done) | (simp_all; omega))) fun _ => ?_; (try simp ))
      refine CondK.intro (fun h6 => ?_) (fun h6 => ?_)
      · try simp [hx, hpl2, hxl]
        repeat (refine PreK.intro (by first | omega | (intros; first | omega | (refine ⟨by omega, ?_⟩; simp_all; done) | (simp_all; done) | (simp_all; omega))) fun _ => ?_; (try simp [hx, hpl2, hxl]))
        exact hq 6 _ (by omega) (by omega) (by simp [namX, rowX, spX, hx, range_succ', leEls_refl])
      · simp at h6
    · simp [namX, rowX, range_succ']
      try simp 
      repeat (refine PreK.intro (by first | omega | (intros; first | omega | (refine ⟨by omega, ?_⟩; simp_all; done) | (simp_all; done) | (simp_all; omega))) fun _ => ?_; (try simp ))
      refine CondK.intro (fun h6 => ?_) (fun h6 => ?_)
      · simp at h6
      · apply he
        try simp 
        repeat (refine PreK.intro (by first | omega | (intros; first | omega | (refine ⟨by omega, ?_⟩; simp_all; done) | (simp_all; done) | (simp_all; omega))) fun _ => ?_; (try simp ))
        refine ⟨[], ?_⟩
        simp [namX, rowX, range_succ']
theorem CF55 {args : List AV} {r : AV} (hn : args.length ≤ 69) (h : vc Try.prog T [] A55 (FinF T [(.tmp 6), (.tmp 7)] r) ⟨envOf 0 args, []⟩) : CallP Try.prog 55 args r :=
  callPF_of tok mixed Try.func55 (by kernel_rfl) (by kernel_rfl) (by kernel_rfl : Try.f55.ntmps = 69) (by kernel_rfl : Try.f55.body.bind (strip 69 (fun _ => [])) = some A55) hn h
theorem rSpell_c (t : List (List Int)) (p : Int) (to : List Int) (hs : Sm t) (ht : to.length ≤ 1000) : CallP Try.prog 55 [rdsV t, iv p, ints to] (.tup [rdsV (SpellR t p to).1, iv (SpellR t p to).2]) := by
  refine CF55 (by simp) ?_
  have hpl := rplaced_c t p hs
  generalize hR : SpellR t p to = R
  unfold SpellR at hR
  simp [A55]
  try simp 
  repeat' (first
    | (refine CallX.pure (hpl) (by simp) (by simp) ?_; try simp )
    | (refine CallK.intro (hpl) (by simp) (by simp) ?_; try simp )
    | (refine CallG.intro (fun _ => hpl) (by simp) (by simp) ?_; try simp )
    | ((with_reducible refine PreK.intro ?_ ?_); (next => (first | omega | (intros; first | omega | (refine ⟨by omega, ?_⟩; repeat (first | assumption | constructor)) | assumption))); intro _; try simp )
    | fail)
  by_cases h1 : placedErr t [p] = 0
  · rw [if_neg (by simpa using h1)] at hR
    try simp [h1]
    repeat (refine PreK.intro (by first | omega | (intros; first | omega | (refine ⟨by omega, ?_⟩; simp_all; done) | (simp_all; done) | (simp_all; omega))) fun _ => ?_; (try simp [h1]))
    refine CondK.ff ?_
    try simp 
    try simp 
    repeat (refine PreK.intro (by first | omega | (intros; first | omega | (refine ⟨by omega, ?_⟩; simp_all; done) | (simp_all; done) | (simp_all; omega))) fun _ => ?_; (try simp ))
    by_cases h3 : to.length = 3
    · have h3' : (to.length : Int) = 3 := by omega
      have hall := toErr_all h3
      try simp [h3, h3']
      repeat (refine PreK.intro (by first | omega | (intros; first | omega | (refine ⟨by omega, ?_⟩; simp_all; done) | (simp_all; done) | (simp_all; omega))) fun _ => ?_; (try simp [h3, h3']))
      refine CondK.ff ?_
      try simp 
      try simp 
      repeat (refine PreK.intro (by first | omega | (intros; first | omega | (refine ⟨by omega, ?_⟩; simp_all; done) | (simp_all; done) | (simp_all; omega))) fun _ => ?_; (try simp ))
      refine LoopK.by (ι := Nat) (fun r => ⟨[(9, iv r), (0, rdsV t), (1, iv p), (2, ints to)], []⟩) (fun r => 3 - r) (fun r => r ≤ 3 ∧ ∀ q : Nat, q < r → (q : Int) ∈ to) 0 ⟨Nat.zero_le _, fun q hq => absurd hq (Nat.not_lt_zero q)⟩ (by simp) ?_
      intro r Q' ⟨hr3, hin⟩ hq he hr
      try simp 
      refine CondK.intro (fun h4 => ?_) (fun h4 => ?_)
      · simp at h4
        have h4' : r ≤ 2 := by omega
        try simp 
        repeat (refine PreK.intro (by first | omega | (intros; first | omega | (refine ⟨by omega, ?_⟩; simp_all; done) | (simp_all; done) | (simp_all; omega))) fun _ => ?_; (try simp ))
        refine LoopK.by (ι := Nat) (fun i => ⟨[(11, iv i), (10, bv (decide ((r : Int) ∈ to.take i))), (9, iv r), (0, rdsV t), (1, iv p), (2, ints to)], []⟩) (fun i => to.length - i) (fun i => i ≤ to.length) 0 (Nat.zero_le _) (by simp) ?_
        intro i Q2 hi hq2 he2 hr2
        try simp 
        refine CondK.intro (fun h5 => ?_) (fun h5 => ?_)
        · simp at h5
          have hms := mem_take_succ to i h5 (r : Int)
          cases hd : decide ((r : Int) ∈ to.take i) with
          | true =>
            rw [hd] at hms
            simp only [Bool.true_or] at hms
            try simp [h5]
            repeat (refine PreK.intro (by first | omega | (intros; first | omega | (refine ⟨by omega, ?_⟩; simp_all; done) | (simp_all; done) | (simp_all; omega))) fun _ => ?_; (try simp [h5]))
            refine hq2 (i + 1) _ (by omega) (by omega) ?_
            rw [hms]
            simp
          | false =>
            rw [hd] at hms
            simp only [Bool.false_or] at hms
            try simp [h5]
            repeat (refine PreK.intro (by first | omega | (intros; first | omega | (refine ⟨by omega, ?_⟩; simp_all; done) | (simp_all; done) | (simp_all; omega))) fun _ => ?_; (try simp [h5]))
            refine hq2 (i + 1) _ (by omega) (by omega) ?_
            rw [hms]
            simp
        · simp at h5
          have hil : i = to.length := by omega
          subst hil
          rw [List.take_length]
          try simp 
          apply he2
          by_cases h6 : (r : Int) ∈ to
          · try simp [h6]
            repeat (refine PreK.intro (by first | omega | (intros; first | omega | (refine ⟨by omega, ?_⟩; simp_all; done) | (simp_all; done) | (simp_all; omega))) fun _ => ?_; (try simp [h6]))
            refine CondK.ff ?_
            try simp 
            try simp 
            repeat (refine PreK.intro (by first | omega | (intros; first | omega | (refine ⟨by omega, ?_⟩; simp_all; done) | (simp_all; done) | (simp_all; omega))) fun _ => ?_; (try simp ))
            refine hq (r + 1) _ ⟨by omega, fun q hq' => ?_⟩ (by omega) (by simp)
            by_cases e : q = r
            · rw [e]; exact h6
            · exact hin q (by omega)
          · have hne : toErr to ≠ 0 := by
              intro h7
              obtain ⟨a0, a1, a2⟩ := hall.1 h7
              have h8 : r = 0 ∨ r = 1 ∨ r = 2 := by omega
              rcases h8 with rfl | rfl | rfl <;> exact h6 (by assumption)
            rw [if_pos hne] at hR
            subst hR
            try simp [h6]
            repeat (refine PreK.intro (by first | omega | (intros; first | omega | (refine ⟨by omega, ?_⟩; simp_all; done) | (simp_all; done) | (simp_all; omega))) fun _ => ?_; (try simp [h6]))
            refine CondK.tt ?_
            try simp 
            try simp 
            repeat (refine PreK.intro (by first | omega | (intros; first | omega | (refine ⟨by omega, ?_⟩; simp_all; done) | (simp_all; done) | (simp_all; omega))) fun _ => ?_; (try simp ))
            apply hr
            try simp 
            repeat (refine PreK.intro (by first | omega | (intros; first | omega | (refine ⟨by omega, ?_⟩; simp_all; done) | (simp_all; done) | (simp_all; omega))) fun _ => ?_; (try simp ))
            exact ⟨[], by simp⟩
      · simp at h4
        have hr4 : r = 3 := by omega
        subst hr4
        have hto : toErr to = 0 := hall.2 ⟨hin 0 (by omega), hin 1 (by omega), hin 2 (by omega)⟩
        have hsp := toErr_zero hto
        rw [if_neg (by simpa using hto)] at hR
        have hpc : vErr t = 0 ∧ 0 ≤ p ∧ p.toNat < wid t := by
          unfold placedErr at h1
          split at h1
          · rename_i h2; exact absurd h1 h2
          · rename_i h2
            split at h1
            · cases h1
            · rename_i h5
              simp [noPlace] at h5
              exact ⟨by simpa using h2, by omega, by omega⟩
        obtain ⟨hv, hp0, hpw⟩ := hpc
        have hrd := vErr_zero hv
        obtain ⟨k, rfl⟩ := Int.eq_ofNat_of_zero_le hp0
        rw [Int.toNat_natCast] at hpw hR
        subst hR
        have hnum := hrd.num
        have hpos := hrd.pos
        have hw6 := hrd.w6
        have hrw : ∀ j, j < t.length → (el t j).length = wid t := fun j hj => hrd.row hj
        have hval : ∀ j, j < t.length → ∃ x : Nat, el (el t j) k = (x : Int) ∧ x < 3 := by
          intro j hj
          obtain ⟨h6, h7⟩ := hrd.val hj hpw
          exact ⟨(el (el t j) k).toNat, by omega, by omega⟩
        have hcm := Copy_m t (by omega) (by omega) (fun j hj => by have := hrw j hj; omega)
        have hsr := spell_rows t k to
        try simp 
        apply he
        try simp 
        repeat (refine PreK.intro (by first | omega | (intros; first | omega | (refine ⟨by omega, ?_⟩; simp_all; done) | (simp_all; done) | (simp_all; omega))) fun _ => ?_; (try simp ))
        have hn : t.length = 1 ∨ t.length = 2 ∨ t.length = 3 ∨ t.length = 4 ∨ t.length = 5 ∨ t.length = 6 := by omega
        rcases hn with hn | hn | hn | hn | hn | hn
        · rw [hn] at hcm hrw hval hsr
          simp only [rowN, rowM] at hcm
          refine CallX.mem 1000 hcm (by simp) (by simp [range_succ']) (by simp [range_succ']) ?_
          simp [range_succ']
          try simp 
          repeat (refine PreK.intro (by first | omega | (intros; first | omega | (refine ⟨by omega, ?_⟩; simp_all; done) | (simp_all; done) | (simp_all; omega))) fun _ => ?_; (try simp ))
          refine LoopK.by (ι := Nat) (fun i => ⟨[(13, iv i), (12, .sl 1003 2 0 1), (0, rdsV t), (1, iv (k : Int)), (2, ints to)], (1003, some ⟨1, namX t 1, 2, true⟩) :: rowX t k to 1 i⟩) (fun i => 1 - i) (fun i => i ≤ 1) 0 (Nat.zero_le _) (by simp [namX, rowX, range_succ', leEls_refl]) ?_
          intro i Q2 hi hq2 he2 hr2
          have hi6 : i = 0 ∨ i = 1 := by omega
          rcases hi6 with rfl | rfl
          · obtain ⟨x, hx, hx3⟩ := hval 0 (by omega)
            have hrl := hrw 0 (by omega)
            have hpl2 : k < (el t 0).length := by omega
            have hxl : x < to.length := by omega
            have hit : 0 < t.length := by omega
            simp [namX, rowX, range_succ']
            try simp 
            repeat (refine PreK.intro (by first | omega | (intros; first | omega | (refine ⟨by omega, ?_⟩; simp_all; done) | (simp_all; done) | (simp_all; omega))) fun _ => ?_; (try simp ))
            refine CondK.intro (fun h6 => ?_) (fun h6 => ?_)
            · try simp [hx, hpl2, hxl, hit]
              repeat (refine PreK.intro (by first | omega | (intros; first | omega | (refine ⟨by omega, ?_⟩; simp_all; done) | (simp_all; done) | (simp_all; omega))) fun _ => ?_; (try simp [hx, hpl2, hxl, hit]))
              exact hq2 1 _ (by omega) (by omega) (by simp [namX, rowX, spX, hx, range_succ', leEls_refl])
            · simp at h6
          · simp [namX, rowX, range_succ']
            try simp 
            repeat (refine PreK.intro (by first | omega | (intros; first | omega | (refine ⟨by omega, ?_⟩; simp_all; done) | (simp_all; done) | (simp_all; omega))) fun _ => ?_; (try simp ))
            refine CondK.intro (fun h6 => ?_) (fun h6 => ?_)
            · simp at h6
            · apply he2
              try simp 
              repeat (refine PreK.intro (by first | omega | (intros; first | omega | (refine ⟨by omega, ?_⟩; simp_all; done) | (simp_all; done) | (simp_all; omega))) fun _ => ?_; (try simp ))
              refine ⟨[1100, 1003], ?_⟩
              rw [hsr]
              have htk : ∀ (l : List Int) (q : Nat) (v : AV), List.take l.length ((List.map iv l).set q v) = (List.map iv l).set q v := fun l q v => List.take_of_length_le (by simp)
              simp [namX, rowX, spX, htk, range_succ']
        · rw [hn] at hcm hrw hval hsr
          simp only [rowN, rowM] at hcm
          refine CallX.mem 1000 hcm (by simp) (by simp [range_succ']) (by simp [range_succ']) ?_
          simp [range_succ']
          try simp 
          repeat (refine PreK.intro (by first | omega | (intros; first | omega | (refine ⟨by omega, ?_⟩; simp_all; done) | (simp_all; done) | (simp_all; omega))) fun _ => ?_; (try simp ))
          refine LoopK.by (ι := Nat) (fun i => ⟨[(13, iv i), (12, .sl 1003 3 0 2), (0, rdsV t), (1, iv (k : Int)), (2, ints to)], (1003, some ⟨1, namX t 2, 3, true⟩) :: rowX t k to 2 i⟩) (fun i => 2 - i) (fun i => i ≤ 2) 0 (Nat.zero_le _) (by simp [namX, rowX, range_succ', leEls_refl]) ?_
          intro i Q2 hi hq2 he2 hr2
          have hi6 : i = 0 ∨ i = 1 ∨ i = 2 := by omega
          rcases hi6 with rfl | rfl | rfl
          · obtain ⟨x, hx, hx3⟩ := hval 0 (by omega)
            have hrl := hrw 0 (by omega)
            have hpl2 : k < (el t 0).length := by omega
            have hxl : x < to.length := by omega
            have hit : 0 < t.length := by omega
            simp [namX, rowX, range_succ']
            try simp 
            repeat (refine PreK.intro (by first | omega | (intros; first | omega | (refine ⟨by omega, ?_⟩; simp_all; done) | (simp_all; done) | (simp_all; omega))) fun _ => ?_; (try simp ))
            refine CondK.intro (fun h6 => ?_) (fun h6 => ?_)
            · try simp [hx, hpl2, hxl, hit]
              repeat (refine PreK.intro (by first | omega | (intros; first | omega | (refine ⟨by omega, ?_⟩; simp_all; done) | (simp_all; done) | (simp_all; omega))) fun _ => ?_; (try simp [hx, hpl2, hxl, hit]))
              exact hq2 1 _ (by omega) (by omega) (by simp [namX, rowX, spX, hx, range_succ', leEls_refl])
            · simp at h6
          · obtain ⟨x, hx, hx3⟩ := hval 1 (by omega)
            have hrl := hrw 1 (by omega)
            have hpl2 : k < (el t 1).length := by omega
            have hxl : x < to.length := by omega
            have hit : 1 < t.length := by omega
            simp [namX, rowX, range_succ']
            try simp 
            repeat (refine PreK.intro (by first | omega | (intros; first | omega | (refine ⟨by omega, ?_⟩; simp_all; done) | (simp_all; done) | (simp_all; omega))) fun _ => ?_; (try simp ))
            refine CondK.intro (fun h6 => ?_) (fun h6 => ?_)
            · try simp [hx, hpl2, hxl, hit]
              repeat (refine PreK.intro (by first | omega | (intros; first | omega | (refine ⟨by omega, ?_⟩; simp_all; done) | (simp_all; done) | (simp_all; omega))) fun _ => ?_; (try simp [hx, hpl2, hxl, hit]))
              exact hq2 2 _ (by omega) (by omega) (by simp [namX, rowX, spX, hx, range_succ', leEls_refl])
            · simp at h6
          · simp [namX, rowX, range_succ']
            try simp 
            repeat (refine PreK.intro (by first | omega | (intros; first | omega | (refine ⟨by omega, ?_⟩; simp_all; done) | (simp_all; done) | (simp_all; omega))) fun _ => ?_; (try simp ))
            refine CondK.intro (fun h6 => ?_) (fun h6 => ?_)
            · simp at h6
            · apply he2
              try simp 
              repeat (refine PreK.intro (by first | omega | (intros; first | omega | (refine ⟨by omega, ?_⟩; simp_all; done) | (simp_all; done) | (simp_all; omega))) fun _ => ?_; (try simp ))
              refine ⟨[1100, 1101, 1003], ?_⟩
              rw [hsr]
              have htk : ∀ (l : List Int) (q : Nat) (v : AV), List.take l.length ((List.map iv l).set q v) = (List.map iv l).set q v := fun l q v => List.take_of_length_le (by simp)
              simp [namX, rowX, spX, htk, range_succ']
        · rw [hn] at hcm hrw hval hsr
          simp only [rowN, rowM] at hcm
          refine CallX.mem 1000 hcm (by simp) (by simp [range_succ']) (by simp [range_succ']) ?_
          simp [range_succ']
          try simp 
          repeat (refine PreK.intro (by first | omega | (intros; first | omega | (refine ⟨by omega, ?_⟩; simp_all; done) | (simp_all; done) | (simp_all; omega))) fun _ => ?_; (try simp ))
          refine LoopK.by (ι := Nat) (fun i => ⟨[(13, iv i), (12, .sl 1003 4 0 3), (0, rdsV t), (1, iv (k : Int)), (2, ints to)], (1003, some ⟨1, namX t 3, 4, true⟩) :: rowX t k to 3 i⟩) (fun i => 3 - i) (fun i => i ≤ 3) 0 (Nat.zero_le _) (by simp [namX, rowX, range_succ', leEls_refl]) ?_
          intro i Q2 hi hq2 he2 hr2
          have hi6 : i = 0 ∨ i = 1 ∨ i = 2 ∨ i = 3 := by omega
          rcases hi6 with rfl | rfl | rfl | rfl
          · obtain ⟨x, hx, hx3⟩ := hval 0 (by omega)
            have hrl := hrw 0 (by omega)
            have hpl2 : k < (el t 0).length := by omega
            have hxl : x < to.length := by omega
            have hit : 0 < t.length := by omega
            simp [namX, rowX, range_succ']
            try simp 
            repeat (refine PreK.intro (by first | omega | (intros; first | omega | (refine ⟨by omega, ?_⟩; simp_all; done) | (simp_all; done) | (simp_all; omega))) fun _ => ?_; (try simp ))
            refine CondK.intro (fun h6 => ?_) (fun h6 => ?_)
            · try simp [hx, hpl2, hxl, hit]
              repeat (refine PreK.intro (by first | omega | (intros; first | omega | (refine ⟨by omega, ?_⟩; simp_all; done) | (simp_all; done) | (simp_all; omega))) fun _ => ?_; (try simp [hx, hpl2, hxl, hit]))
              exact hq2 1 _ (by omega) (by omega) (by simp [namX, rowX, spX, hx, range_succ', leEls_refl])
            · simp at h6
          · obtain ⟨x, hx, hx3⟩ := hval 1 (by omega)
            have hrl := hrw 1 (by omega)
            have hpl2 : k < (el t 1).length := by omega
            have hxl : x < to.length := by omega
            have hit : 1 < t.length := by omega
            simp [namX, rowX, range_succ']
            try simp 
            repeat (refine PreK.intro (by first | omega | (intros; first | omega | (refine ⟨by omega, ?_⟩; simp_all; done) | (simp_all; done) | (simp_all; omega))) fun _ => ?_; (try simp ))
            refine CondK.intro (fun h6 => ?_) (fun h6 => ?_)
            · try simp [hx, hpl2, hxl, hit]
              repeat (refine PreK.intro (by first | omega | (intros; first | omega | (refine ⟨by omega, ?_⟩; simp_all; done) | (simp_all; done) | (simp_all; omega))) fun _ => ?_; (try simp [hx, hpl2, hxl, hit]))
              exact hq2 2 _ (by omega) (by omega) (by simp [namX, rowX, spX, hx, range_succ', leEls_refl])
            · simp at h6
          · obtain ⟨x, hx, hx3⟩ := hval 2 (by omega)
            have hrl := hrw 2 (by omega)
            have hpl2 : k < (el t 2).length := by omega
            have hxl : x < to.length := by omega
            have hit : 2 < t.length := by omega
            simp [namX, rowX, range_succ']
            try simp 
            repeat (refine PreK.intro (by first | omega | (intros; first | omega | (refine ⟨by omega, ?_⟩; simp_all; done) | (simp_all; done) | (simp_all; omega))) fun _ => ?_; (try simp ))
            refine CondK.intro (fun h6 => ?_) (fun h6 => ?_)
            · try simp [hx, hpl2, hxl, hit]
              repeat (refine PreK.intro (by first | omega | (intros; first | omega | (refine ⟨by omega, ?_⟩; simp_all; done) | (simp_all; done) | (simp_all; omega))) fun _ => ?_; (try simp [hx, hpl2, hxl, hit]))
              exact hq2 3 _ (by omega) (by omega) (by simp [namX, rowX, spX, hx, range_succ', leEls_refl])
            · simp at h6
          · simp [namX, rowX, range_succ']
            try simp 
            repeat (refine PreK.intro (by first | omega | (intros; first | omega | (refine ⟨by omega, ?_⟩; simp_all; done) | (simp_all; done) | (simp_all; omega))) fun _ => ?_; (try simp ))
            refine CondK.intro (fun h6 => ?_) (fun h6 => ?_)
            · simp at h6
            · apply he2
              try simp 
              repeat (refine PreK.intro (by first | omega | (intros; first | omega | (refine ⟨by omega, ?_⟩; simp_all; done) | (simp_all; done) | (simp_all; omega))) fun _ => ?_; (try simp ))
              refine ⟨[1100, 1101, 1102, 1003], ?_⟩
              rw [hsr]
              have htk : ∀ (l : List Int) (q : Nat) (v : AV), List.take l.length ((List.map iv l).set q v) = (List.map iv l).set q v := fun l q v => List.take_of_length_le (by simp)
              simp [namX, rowX, spX, htk, range_succ']
        · rw [hn] at hcm hrw hval hsr
          simp only [rowN, rowM] at hcm
          refine CallX.mem 1000 hcm (by simp) (by simp [range_succ']) (by simp [range_succ']) ?_
          simp [range_succ']
          try simp 
          repeat (refine PreK.intro (by first | omega | (intros; first | omega | (refine ⟨by omega, ?_⟩; simp_all; done) | (simp_all; done) | (simp_all; omega))) fun _ => ?_; (try simp ))
          refine LoopK.by (ι := Nat) (fun i => ⟨[(13, iv i), (12, .sl 1003 5 0 4), (0, rdsV t), (1, iv (k : Int)), (2, ints to)], (1003, some ⟨1, namX t 4, 5, true⟩) :: rowX t k to 4 i⟩) (fun i => 4 - i) (fun i => i ≤ 4) 0 (Nat.zero_le _) (by simp [namX, rowX, range_succ', leEls_refl]) ?_
          intro i Q2 hi hq2 he2 hr2
          have hi6 : i = 0 ∨ i = 1 ∨ i = 2 ∨ i = 3 ∨ i = 4 := by omega
          rcases hi6 with rfl | rfl | rfl | rfl | rfl
          · obtain ⟨x, hx, hx3⟩ := hval 0 (by omega)
            have hrl := hrw 0 (by omega)
            have hpl2 : k < (el t 0).length := by omega
            have hxl : x < to.length := by omega
            have hit : 0 < t.length := by omega
            simp [namX, rowX, range_succ']
            try simp 
            repeat (refine PreK.intro (by first | omega | (intros; first | omega | (refine ⟨by omega, ?_⟩; simp_all; done) | (simp_all; done) | (simp_all; omega))) fun _ => ?_; (try simp ))
            refine CondK.intro (fun h6 => ?_) (fun h6 => ?_)
            · try simp [hx, hpl2, hxl, hit]
              repeat (refine PreK.intro (by first | omega | (intros; first | omega | (refine ⟨by omega, ?_⟩; simp_all; done) | (simp_all; done) | (simp_all; omega))) fun _ => ?_; (try simp [hx, hpl2, hxl, hit]))
              exact hq2 1 _ (by omega) (by omega) (by simp [namX, rowX, spX, hx, range_succ', leEls_refl])
            · simp at h6
          · obtain ⟨x, hx, hx3⟩ := hval 1 (by omega)
            have hrl := hrw 1 (by omega)
            have hpl2 : k < (el t 1).length := by omega
            have hxl : x < to.length := by omega
            have hit : 1 < t.length := by omega
            simp [namX, rowX, range_succ']
            try simp 
            repeat (refine PreK.intro (by first | omega | (intros; first | omega | (refine ⟨by omega, ?_⟩; simp_all; done) | (simp_all; done) | (simp_all; omega))) fun _ => ?_; (try simp ))
            refine CondK.intro (fun h6 => ?_) (fun h6 => ?_)
            · try simp [hx, hpl2, hxl, hit]
              repeat (refine PreK.intro (by first | omega | (intros; first | omega | (refine ⟨by omega, ?_⟩; simp_all; done) | (simp_all; done) | (simp_all; omega))) fun _ => ?_; (try simp [hx, hpl2, hxl, hit]))
              exact hq2 2 _ (by omega) (by omega) (by simp [namX, rowX, spX, hx, range_succ', leEls_refl])
            · simp at h6
          · obtain ⟨x, hx, hx3⟩ := hval 2 (by omega)
            have hrl := hrw 2 (by omega)
            have hpl2 : k < (el t 2).length := by omega
            have hxl : x < to.length := by omega
            have hit : 2 < t.length := by omega
            simp [namX, rowX, range_succ']
            try simp 
            repeat (refine PreK.intro (by first | omega | (intros; first | omega | (refine ⟨by omega, ?_⟩; simp_all; done) | (simp_all; done) | (simp_all; omega))) fun _ => ?_; (try simp ))
            refine CondK.intro (fun h6 => ?_) (fun h6 => ?_)
            · try simp [hx, hpl2, hxl, hit]
              repeat (refine PreK.intro (by first | omega | (intros; first | omega | (refine ⟨by omega, ?_⟩; simp_all; done) | (simp_all; done) | (simp_all; omega))) fun _ => ?_; (try simp [hx, hpl2, hxl, hit]))
              exact hq2 3 _ (by omega) (by omega) (by simp [namX, rowX, spX, hx, range_succ', leEls_refl])
            · simp at h6
          · obtain ⟨x, hx, hx3⟩ := hval 3 (by omega)
            have hrl := hrw 3 (by omega)
            have hpl2 : k < (el t 3).length := by omega
            have hxl : x < to.length := by omega
            have hit : 3 < t.length := by omega
            simp [namX, rowX, range_succ']
            try simp 
            repeat (refine PreK.intro (by first | omega | (intros; first | omega | (refine ⟨by omega, ?_⟩; simp_all; done) | (simp_all; done) | (simp_all; omega))) fun _ => ?_; (try simp ))
            refine CondK.intro (fun h6 => ?_) (fun h6 => ?_)
            · try simp [hx, hpl2, hxl, hit]
              repeat (refine PreK.intro (by first | omega | (intros; first | omega | (refine ⟨by omega, ?_⟩; simp_all; done) | (simp_all; done) | (simp_all; omega))) fun _ => ?_; (try simp [hx, hpl2, hxl, hit]))
              exact hq2 4 _ (by omega) (by omega) (by simp [namX, rowX, spX, hx, range_succ', leEls_refl])
            · simp at h6
          · simp [namX, rowX, range_succ']
            try simp 
            repeat (refine PreK.intro (by first | omega | (intros; first | omega | (refine ⟨by omega, ?_⟩; simp_all; done) | (simp_all; done) | (simp_all; omega))) fun _ => ?_; (try simp ))
            refine CondK.intro (fun h6 => ?_) (fun h6 => ?_)
            · simp at h6
            · apply he2
              try simp 
              repeat (refine PreK.intro (by first | omega | (intros; first | omega | (refine ⟨by omega, ?_⟩; simp_all; done) | (simp_all; done) | (simp_all; omega))) fun _ => ?_; (try simp ))
              refine ⟨[1100, 1101, 1102, 1103, 1003], ?_⟩
              rw [hsr]
              have htk : ∀ (l : List Int) (q : Nat) (v : AV), List.take l.length ((List.map iv l).set q v) = (List.map iv l).set q v := fun l q v => List.take_of_length_le (by simp)
              simp [namX, rowX, spX, htk, range_succ']
        · rw [hn] at hcm hrw hval hsr
          simp only [rowN, rowM] at hcm
          refine CallX.mem 1000 hcm (by simp) (by simp [range_succ']) (by simp [range_succ']) ?_
          simp [range_succ']
          try simp 
          repeat (refine PreK.intro (by first | omega | (intros; first | omega | (refine ⟨by omega, ?_⟩; simp_all; done) | (simp_all; done) | (simp_all; omega))) fun _ => ?_; (try simp ))
          refine LoopK.by (ι := Nat) (fun i => ⟨[(13, iv i), (12, .sl 1003 6 0 5), (0, rdsV t), (1, iv (k : Int)), (2, ints to)], (1003, some ⟨1, namX t 5, 6, true⟩) :: rowX t k to 5 i⟩) (fun i => 5 - i) (fun i => i ≤ 5) 0 (Nat.zero_le _) (by simp [namX, rowX, range_succ', leEls_refl]) ?_
          intro i Q2 hi hq2 he2 hr2
          have hi6 : i = 0 ∨ i = 1 ∨ i = 2 ∨ i = 3 ∨ i = 4 ∨ i = 5 := by omega
          rcases hi6 with rfl | rfl | rfl | rfl | rfl | rfl
          · obtain ⟨x, hx, hx3⟩ := hval 0 (by omega)
            have hrl := hrw 0 (by omega)
            have hpl2 : k < (el t 0).length := by omega
            have hxl : x < to.length := by omega
            have hit : 0 < t.length := by omega
            simp [namX, rowX, range_succ']
            try simp 
            repeat (refine PreK.intro (by first | omega | (intros; first | omega | (refine ⟨by omega, ?_⟩; simp_all; done) | (simp_all; done) | (simp_all; omega))) fun _ => ?_; (try simp ))
            refine CondK.intro (fun h6 => ?_) (fun h6 => ?_)
            · try simp [hx, hpl2, hxl, hit]
              repeat (refine PreK.intro (by first | omega | (intros; first | omega | (refine ⟨by omega, ?_⟩; simp_all; done) | (simp_all; done) | (simp_all; omega))) fun _ => ?_; (try simp [hx, hpl2, hxl, hit]))
              exact hq2 1 _ (by omega) (by omega) (by simp [namX, rowX, spX, hx, range_succ', leEls_refl])
            · simp at h6
          · obtain ⟨x, hx, hx3⟩ := hval 1 (by omega)
            have hrl := hrw 1 (by omega)
            have hpl2 : k < (el t 1).length := by omega
            have hxl : x < to.length := by omega
            have hit : 1 < t.length := by omega
            simp [namX, rowX, range_succ']
            try simp 
            repeat (refine PreK.intro (by first | omega | (intros; first | omega | (refine ⟨by omega, ?_⟩; simp_all; done) | (simp_all; done) | (simp_all; omega))) fun _ => ?_; (try simp ))
            refine CondK.intro (fun h6 => ?_) (fun h6 => ?_)
            · try simp [hx, hpl2, hxl, hit]
              repeat (refine PreK.intro (by first | omega | (intros; first | omega | (refine ⟨by omega, ?_⟩; simp_all; done) | (simp_all; done) | (simp_all; omega))) fun _ => ?_; (try simp [hx, hpl2, hxl, hit]))
              exact hq2 2 _ (by omega) (by omega) (by simp [namX, rowX, spX, hx, range_succ', leEls_refl])
            · simp at h6
          · obtain ⟨x, hx, hx3⟩ := hval 2 (by omega)
            have hrl := hrw 2 (by omega)
            have hpl2 : k < (el t 2).length := by omega
            have hxl : x < to.length := by omega
            have hit : 2 < t.length := by omega
            simp [namX, rowX, range_succ']
            try simp 
            repeat (refine PreK.intro (by first | omega | (intros; first | omega | (refine ⟨by omega, ?_⟩; simp_all; done) | (simp_all; done) | (simp_all; omega))) fun _ => ?_; (try simp ))
            refine CondK.intro (fun h6 => ?_) (fun h6 => ?_)
            · try simp [hx, hpl2, hxl, hit]
              repeat (refine PreK.intro (by first | omega | (intros; first | omega | (refine ⟨by omega, ?_⟩; simp_all; done) | (simp_all; done) | (simp_all; omega))) fun _ => ?_; (try simp [hx, hpl2, hxl, hit]))
              exact hq2 3 _ (by omega) (by omega) (by simp [namX, rowX, spX, hx, range_succ', leEls_refl])
            · simp at h6
          · obtain ⟨x, hx, hx3⟩ := hval 3 (by omega)
            have hrl := hrw 3 (by omega)
            have hpl2 : k < (el t 3).length := by omega
            have hxl : x < to.length := by omega
            have hit : 3 < t.length := by omega
            simp [namX, rowX, range_succ']
            try simp 
            repeat (refine PreK.intro (by first | omega | (intros; first | omega | (refine ⟨by omega, ?_⟩; simp_all; done) | (simp_all; done) | (simp_all; omega))) fun _ => ?_; (try simp ))
            refine CondK.intro (fun h6 => ?_) (fun h6 => ?_)
            · try simp [hx, hpl2, hxl, hit]
              repeat (refine PreK.intro (by first | omega | (intros; first | omega | (refine ⟨by omega, ?_⟩; simp_all; done) | (simp_all; done) | (simp_all; omega))) fun _ => ?_; (try simp [hx, hpl2, hxl, hit]))
              exact hq2 4 _ (by omega) (by omega) (by simp [namX, rowX, spX, hx, range_succ', leEls_refl])
            · simp at h6
          · obtain ⟨x, hx, hx3⟩ := hval 4 (by omega)
            have hrl := hrw 4 (by omega)
            have hpl2 : k < (el t 4).length := by omega
            have hxl : x < to.length := by omega
            have hit : 4 < t.length := by omega
            simp [namX, rowX, range_succ']
            try simp 
            repeat (refine PreK.intro (by first | omega | (intros; first | omega | (refine ⟨by omega, ?_⟩; simp_all; done) | (simp_all; done) | (simp_all; omega))) fun _ => ?_; (try simp ))
            refine CondK.intro (fun h6 => ?_) (fun h6 => ?_)
            · try simp [hx, hpl2, hxl, hit]
              repeat (refine PreK.intro (by first | omega | (intros; first | omega | (refine ⟨by omega, ?_⟩; simp_all; done) | (simp_all; done) | (simp_all; omega))) fun _ => ?_; (try simp [hx, hpl2, hxl, hit]))
              exact hq2 5 _ (by omega) (by omega) (by simp [namX, rowX, spX, hx, range_succ', leEls_refl])
            · simp at h6
          · simp [namX, rowX, range_succ']
            try simp 
            repeat (refine PreK.intro (by first | omega | (intros; first | omega | (refine ⟨by omega, ?_⟩; simp_all; done) | (simp_all; done) | (simp_all; omega))) fun _ => ?_; (try simp ))
            refine CondK.intro (fun h6 => ?_) (fun h6 => ?_)
            · simp at h6
            · apply he2
              try simp 
              repeat (refine PreK.intro (by first | omega | (intros; first | omega | (refine ⟨by omega, ?_⟩; simp_all; done) | (simp_all; done) | (simp_all; omega))) fun _ => ?_; (try simp ))
              refine ⟨[1100, 1101, 1102, 1103, 1104, 1003], ?_⟩
              rw [hsr]
              have htk : ∀ (l : List Int) (q : Nat) (v : AV), List.take l.length ((List.map iv l).set q v) = (List.map iv l).set q v := fun l q v => List.take_of_length_le (by simp)
              simp [namX, rowX, spX, htk, range_succ']
        · rw [hn] at hcm hrw hval hsr
          simp only [rowN, rowM] at hcm
          refine CallX.mem 1000 hcm (by simp) (by simp [range_succ']) (by simp [range_succ']) ?_
          simp [range_succ']
          try simp 
          repeat (refine PreK.intro (by first | omega | (intros; first | omega | (refine ⟨by omega, ?_⟩; simp_all; done) | (simp_all; done) | (simp_all; omega))) fun _ => ?_; (try simp ))
          refine LoopK.by (ι := Nat) (fun i => ⟨[(13, iv i), (12, .sl 1003 7 0 6), (0, rdsV t), (1, iv (k : Int)), (2, ints to)], (1003, some ⟨1, namX t 6, 7, true⟩) :: rowX t k to 6 i⟩) (fun i => 6 - i) (fun i => i ≤ 6) 0 (Nat.zero_le _) (by simp [namX, rowX, range_succ', leEls_refl]) ?_
          intro i Q2 hi hq2 he2 hr2
          have hi6 : i = 0 ∨ i = 1 ∨ i = 2 ∨ i = 3 ∨ i = 4 ∨ i = 5 ∨ i = 6 := by omega
          rcases hi6 with rfl | rfl | rfl | rfl | rfl | rfl | rfl
          · obtain ⟨x, hx, hx3⟩ := hval 0 (by omega)
            have hrl := hrw 0 (by omega)
            have hpl2 : k < (el t 0).length := by omega
            have hxl : x < to.length := by omega
            have hit : 0 < t.length := by omega
            simp [namX, rowX, range_succ']
            try simp 
            repeat (refine PreK.intro (by first | omega | (intros; first | omega | (refine ⟨by omega, ?_⟩; simp_all; done) | (simp_all; done) | (simp_all; omega))) fun _ => ?_; (try simp ))
            refine CondK.intro (fun h6 => ?_) (fun h6 => ?_)
            · try simp [hx, hpl2, hxl, hit]
              repeat (refine PreK.intro (by first | omega | (intros; first | omega | (refine ⟨by omega, ?_⟩; simp_all; done) | (simp_all; done) | (simp_all; omega))) fun _ => ?_; (try simp [hx, hpl2, hxl, hit]))
              exact hq2 1 _ (by omega) (by omega) (by simp [namX, rowX, spX, hx, range_succ', leEls_refl])
            · simp at h6
          · obtain ⟨x, hx, hx3⟩ := hval 1 (by omega)
            have hrl := hrw 1 (by omega)
            have hpl2 : k < (el t 1).length := by omega
            have hxl : x < to.length := by omega
            have hit : 1 < t.length := by omega
            simp [namX, rowX, range_succ']
            try simp 
            repeat (refine PreK.intro (by first | omega | (intros; first | omega | (refine ⟨by omega, ?_⟩; simp_all; done) | (simp_all; done) | (simp_all; omega))) fun _ => ?_; (try simp ))
            refine CondK.intro (fun h6 => ?_) (fun h6 => ?_)
            · try simp [hx, hpl2, hxl, hit]
              repeat (refine PreK.intro (by first | omega | (intros; first | omega | (refine ⟨by omega, ?_⟩; simp_all; done) | (simp_all; done) | (simp_all; omega))) fun _ => ?_; (try simp [hx, hpl2, hxl, hit]))
              exact hq2 2 _ (by omega) (by omega) (by simp [namX, rowX, spX, hx, range_succ', leEls_refl])
            · simp at h6
          · obtain ⟨x, hx, hx3⟩ := hval 2 (by omega)
            have hrl := hrw 2 (by omega)
            have hpl2 : k < (el t 2).length := by omega
            have hxl : x < to.length := by omega
            have hit : 2 < t.length := by omega
            simp [namX, rowX, range_succ']
            try simp 
            repeat (refine PreK.intro (by first | omega | (intros; first | omega | (refine ⟨by omega, ?_⟩; simp_all; done) | (simp_all; done) | (simp_all; omega))) fun _ => ?_; (try simp ))
            refine CondK.intro (fun h6 => ?_) (fun h6 => ?_)
            · try simp [hx, hpl2, hxl, hit]
              repeat (refine PreK.intro (by first | omega | (intros; first | omega | (refine ⟨by omega, ?_⟩; simp_all; done) | (simp_all; done) | (simp_all; omega))) fun _ => ?_; (try simp [hx, hpl2, hxl, hit]))
              exact hq2 3 _ (by omega) (by omega) (by simp [namX, rowX, spX, hx, range_succ', leEls_refl])
            · simp at h6
          · obtain ⟨x, hx, hx3⟩ := hval 3 (by omega)
            have hrl := hrw 3 (by omega)
            have hpl2 : k < (el t 3).length := by omega
            have hxl : x < to.length := by omega
            have hit : 3 < t.length := by omega
            simp [namX, rowX, range_succ']
            try simp 
            repeat (refine PreK.intro (by first | omega | (intros; first | omega | (refine ⟨by omega, ?_⟩; simp_all; done) | (simp_all; done) | (simp_all; omega))) fun _ => ?_; (try simp ))
            refine CondK.intro (fun h6 => ?_) (fun h6 => ?_)
            · try simp [hx, hpl2, hxl, hit]
              repeat (refine PreK.intro (by first | omega | (intros; first | omega | (refine ⟨by omega, ?_⟩; simp_all; done) | (simp_all; done) | (simp_all; omega))) fun _ => ?_; (try simp [hx, hpl2, hxl, hit]))
              exact hq2 4 _ (by omega) (by omega) (by simp [namX, rowX, spX, hx, range_succ', leEls_refl])
            · simp at h6
          · obtain ⟨x, hx, hx3⟩ := hval 4 (by omega)
            have hrl := hrw 4 (by omega)
            have hpl2 : k < (el t 4).length := by omega
            have hxl : x < to.length := by omega
            have hit : 4 < t.length := by omega
            simp [namX, rowX, range_succ']
            try simp 
            repeat (refine PreK.intro (by first | omega | (intros; first | omega | (refine ⟨by omega, ?_⟩; simp_all; done) | (simp_all; done) | (simp_all; omega))) fun _ => ?_; (try simp ))
            refine CondK.intro (fun h6 => ?_) (fun h6 => ?_)
            · try simp [hx, hpl2, hxl, hit]
              repeat (refine PreK.intro (by first | omega | (intros; first | omega | (refine ⟨by omega, ?_⟩; simp_all; done) | (simp_all; done) | (simp_all; omega))) fun _ => ?_; (try simp [hx, hpl2, hxl, hit]))
              exact hq2 5 _ (by omega) (by omega) (by simp [namX, rowX, spX, hx, range_succ', leEls_refl])
            · simp at h6
          · obtain ⟨x, hx, hx3⟩ := hval 5 (by omega)
            have hrl := hrw 5 (by omega)
            have hpl2 : k < (el t 5).length := by omega
            have hxl : x < to.length := by omega
            have hit : 5 < t.length := by omega
            simp [namX, rowX, range_succ']
            try simp 
            repeat (refine PreK.intro (by first | omega | (intros; first | omega | (refine ⟨by omega, ?_⟩; simp_all; done) | (simp_all; done) | (simp_all; omega))) fun _ => ?_; (try simp ))
            refine CondK.intro (fun h6 => ?_) (fun h6 => ?_)
            · try simp [hx, hpl2, hxl, hit]
              repeat (refine PreK.intro (by first | omega | (intros; first | omega | (refine ⟨by omega, ?_⟩; simp_all; done) | (simp_all; done) | (simp_all; omega))) fun _ => ?_; (try simp [hx, hpl2, hxl, hit]))
              exact hq2 6 _ (by omega) (by omega) (by simp [namX, rowX, spX, hx, range_succ', leEls_refl])
            · simp at h6
          · simp [namX, rowX, range_succ']
            try simp 
            repeat (refine PreK.intro (by first | omega | (intros; first | omega | (refine ⟨by omega, ?_⟩; simp_all; done) | (simp_all; done) | (simp_all; omega))) fun _ => ?_; (try simp ))
            refine CondK.intro (fun h6 => ?_) (fun h6 => ?_)
            · simp at h6
            · apply he2
              try simp 
              repeat (refine PreK.intro (by first | omega | (intros; first | omega | (refine ⟨by omega, ?_⟩; simp_all; done) | (simp_all; done) | (simp_all; omega))) fun _ => ?_; (try simp ))
              refine ⟨[1100, 1101, 1102, 1103, 1104, 1105, 1003], ?_⟩
              rw [hsr]
              have htk : ∀ (l : List Int) (q : Nat) (v : AV), List.take l.length ((List.map iv l).set q v) = (List.map iv l).set q v := fun l q v => List.take_of_length_le (by simp)
              simp [namX, rowX, spX, htk, range_succ']
    · have h3' : ¬ (to.length : Int) = 3 := by omega
      have hne : toErr to ≠ 0 := by unfold toErr; rw [if_pos h3]; decide
      rw [if_pos hne] at hR
      subst hR
      try simp [h3, h3']
      repeat (refine PreK.intro (by first | omega | (intros; first | omega | (refine ⟨by omega, ?_⟩; simp_all; done) | (simp_all; done) | (simp_all; omega))) fun _ => ?_; (try simp [h3, h3']))
      refine CondK.tt ?_
      try simp 
      try simp 
      repeat (refine PreK.intro (by first | omega | (intros; first | omega | (refine ⟨by omega, ?_⟩; simp_all; done) | (simp_all; done) | (simp_all; omega))) fun _ => ?_; (try simp ))
      exact ⟨[], by simp⟩
  · rw [if_pos h1] at hR
    subst hR
    try simp [h1]
    repeat (refine PreK.intro (by first | omega | (intros; first | omega | (refine ⟨by omega, ?_⟩; simp_all; done) | (simp_all; done) | (simp_all; omega))) fun _ => ?_; (try simp [h1]))
    refine CondK.tt ?_
    try simp 
    try simp 
    repeat (refine PreK.intro (by first | omega | (intros; first | omega | (refine ⟨by omega, ?_⟩; simp_all; done) | (simp_all; done) | (simp_all; omega))) fun _ => ?_; (try simp ))
    exact ⟨[], by simp⟩
end Go.Proofs.Ytnpkaemlidifgaa
end
