/- Part 6 of the proof: the value layer and the contracts of the functions that the statement reaches; proved without conditions beyond those each theorem states. -/
import Derived.Test.YtkhddecnllcaiaaGreatV4
import Derived.Test.YtkhddecnllcaiaaGreatV5
set_option linter.unusedSimpArgs false
set_option linter.unusedVariables false

section
/- Contracts: the reference's rules. -/
namespace Go.Proofs.YtkhddecnllcaiaaGreat
open Go.Abs Go
set_option maxRecDepth 20000
set_option maxHeartbeats 2000000
attribute [local irreducible] PreK CondK CallK CallG CallX LoopK

theorem within2_c (n lo hi : Int) : CallP Tryz.prog 171 [iv n, iv lo, iv hi] (bv (decide (lo ≤ n) && decide (n ≤ hi))) := by
  refine C171 (by simp) ?_
  simp [A171]
theorem within1_c (n lo hi : Int) : CallP Tryz.prog 185 [iv n, iv lo, iv hi] (bv (decide (lo ≤ n) && decide (n ≤ hi))) := by
  refine C185 (by simp) ?_
  simp [A185]
theorem isWord_c (l : List Int) (hl : l.length ≤ 1000) : CallP Tryz.prog 143 [ints l] (bv (!l.any fun x => !isSound x)) := by
  refine C143 (by simp) ?_
  generalize hR : (!l.any fun x => !isSound x) = R
  simp [A143]
  refine LoopK.by (fun i : Nat => ⟨[(3, iv i), (0, ints l)], []⟩) (fun i => l.length - i) (fun i => i ≤ l.length ∧ (!(l.drop i).any fun x => !isSound x) = R) 0 (by simpa using hR) (by simp) ?_
  intro i Q' ⟨hi, hc⟩ hq he hr
  try simp 
  refine CondK.intro (fun h => ?_) (fun h => ?_)
  · simp at h
    rw [drop_cons l i h] at hc
    simp [h]
    try simp 
    repeat' (first
      | (refine CallX.pure (within2_c (el l i) 0 5) (by simp) (by simp) ?_; try simp )
      | (refine CallK.intro (within2_c (el l i) 0 5) (by simp) (by simp) ?_; try simp )
      | (refine CallG.intro (fun _ => within2_c (el l i) 0 5) (by simp) (by simp) ?_; try simp )
      | ((with_reducible refine PreK.intro ?_ ?_); (next => (first | omega | (intros; first | omega | (refine ⟨by omega, ?_⟩; repeat (first | assumption | constructor)) | assumption))); intro _; try simp )
      | fail)
    refine CondK.intro (fun h2 => ?_) (fun h2 => ?_)
    · have hb : isSound (el l i) = false := by simp at h2; simp [isSound]; omega
      simp [hb] at hc
      try simp 
      apply hr
      simp [hc]
    · have hb : isSound (el l i) = true := by simp at h2; simp [isSound]; omega
      simp [hb] at hc
      try simp 
      refine PreK.intro (by omega) fun _ => ?_
      try simp 
      exact hq (i + 1) _ ⟨by omega, by simpa using hc⟩ (by omega) (by simp)
  · simp at h
    rw [List.drop_eq_nil_of_le (by omega)] at hc
    simp at hc
    try simp 
    apply he
    simp [hc]
theorem rValidateWord_c (w : List Int) (hw : w.length ≤ 1000) : CallP Tryz.prog 98 [ints w] (iv (wordErr w)) := by
  refine C98 (by simp) ?_
  generalize hR : wordErr w = R
  unfold wordErr at hR
  simp [A98]
  refine CondK.intro (fun h => ?_) (fun h => ?_)
  · simp at h
    rw [if_pos (by omega)] at hR
    simp [hR]
  · simp at h
    rw [if_neg (by omega)] at hR
    try simp 
    try simp 
    repeat' (first
      | (refine CallX.pure (isWord_c w hw) (by simp) (by simp) ?_; try simp )
      | (refine CallK.intro (isWord_c w hw) (by simp) (by simp) ?_; try simp )
      | (refine CallG.intro (fun _ => isWord_c w hw) (by simp) (by simp) ?_; try simp )
      | ((with_reducible refine PreK.intro ?_ ?_); (next => (first | omega | (intros; first | omega | (refine ⟨by omega, ?_⟩; repeat (first | assumption | constructor)) | assumption))); intro _; try simp )
      | fail)
    refine CondK.intro (fun h2 => ?_) (fun h2 => ?_)
    · rw [if_pos (by simpa using h2)] at hR
      simp [hR]
    · rw [if_neg (by simpa using h2)] at hR
      simp [hR]
theorem rHas_c (l : List Int) (n : Int) (hl : l.length ≤ 1000) : CallP Tryz.prog 195 [ints l, iv n] (bv (l.any fun x => decide (n = x))) := by
  refine C195 (by simp) ?_
  generalize hR : (l.any fun x => decide (n = x)) = R
  simp [A195]
  refine LoopK.by (fun i : Nat => ⟨[(5, iv i), (0, ints l), (1, iv n)], []⟩) (fun i => l.length - i) (fun i => i ≤ l.length ∧ ((l.drop i).any fun x => decide (n = x)) = R) 0 (by simpa using hR) (by simp) ?_
  intro i Q' ⟨hi, hc⟩ hq he hr
  try simp 
  refine CondK.intro (fun h => ?_) (fun h => ?_)
  · simp at h
    rw [drop_cons l i h] at hc
    simp [h]
    refine CondK.intro (fun h2 => ?_) (fun h2 => ?_)
    · simp at h2
      simp [h2] at hc
      try simp 
      apply hr
      simp [hc]
    · simp at h2
      simp [Ne.symm h2] at hc
      try simp 
      refine PreK.intro (by omega) fun _ => ?_
      try simp 
      exact hq (i + 1) _ ⟨by omega, by simpa using hc⟩ (by omega) (by simp)
  · simp at h
    rw [List.drop_eq_nil_of_le (by omega)] at hc
    simp at hc
    try simp 
    apply he
    simp [hc]
theorem rmay_c (set : List Int) (n : Int) (hs : set.length ≤ 1000) : CallP Tryz.prog 181 [ints set, iv n] (bv (mayS set n)) := by
  refine C181 (by simp) ?_
  simp [A181]
  try simp 
  repeat' (first
    | (refine CallX.pure (rHas_c set n hs) (by simp) (by simp) ?_; try simp )
    | (refine CallK.intro (rHas_c set n hs) (by simp) (by simp) ?_; try simp )
    | (refine CallG.intro (fun _ => rHas_c set n hs) (by simp) (by simp) ?_; try simp )
    | ((with_reducible refine PreK.intro ?_ ?_); (next => (first | omega | (intros; first | omega | (refine ⟨by omega, ?_⟩; repeat (first | assumption | constructor)) | assumption))); intro _; try simp )
    | fail)
  unfold mayS
  cases decide (set = []) <;> rfl
theorem rat_c (w : List Int) (i : Int) (hw : w.length ≤ 1000) : CallP Tryz.prog 182 [ints w, iv i] (iv (atW w i)) := by
  refine C182 (by simp) ?_
  simp [A182]
  try simp 
  repeat' (first
    | (refine CallX.pure (within2_c i 0 (w.length - 1)) (by simp) (by simp) ?_; try simp )
    | (refine CallK.intro (within2_c i 0 (w.length - 1)) (by simp) (by simp) ?_; try simp )
    | (refine CallG.intro (fun _ => within2_c i 0 (w.length - 1)) (by simp) (by simp) ?_; try simp )
    | ((with_reducible refine PreK.intro ?_ ?_); (next => (first | omega | (intros; first | omega | (refine ⟨by omega, ?_⟩; repeat (first | assumption | constructor)) | assumption))); intro _; try simp )
    | fail)
  refine CondK.intro (fun h => ?_) (fun h => ?_)
  · simp at h
    have h2 : 0 ≤ i ∧ i < w.length := by omega
    simp [h2, show i.toNat < w.length by omega]
    simp [atW, h2]
  · simp at h
    have : ¬ (0 ≤ i ∧ i < w.length) := by omega
    simp [atW, this]
theorem rtold_c (w : List Int) : CallP Tryz.prog 164 [ints w] (.tup [ints (if 8 < w.length then [] else w), iv (shortErr w)]) := by
  refine C164 (by simp) ?_
  simp [A164]
  refine CondK.intro (fun h => ?_) (fun h => ?_)
  · simp at h
    have : 8 < w.length := by omega
    simp [shortErr, this]
  · simp at h
    have : ¬ 8 < w.length := by omega
    simp [shortErr, this]
theorem rput_c (r : Rule) (w : List Int) (i : Nat) (hi : i + (long r).toNat ≤ w.length) (hf : r.frm = -1 ∨ 0 ≤ r.frm) (hw : w.length ≤ 400) (ht : r.to.length ≤ 400) : CallP Tryz.prog 165 [ruleV r, ints w, iv i] (ints (putW r w i)) := by
  refine C165 (by simp) ?_
  simp [A165, show i ≤ w.length by omega]
  refine PreK.intro (by omega) fun _ => ?_
  try simp 
  refine PreK.intro (by omega) fun _ => ?_
  try simp 
  refine CondK.intro (fun h => ?_) (fun h => ?_)
  · have hl : long r = 1 := by simp at h; unfold long; rw [if_neg (by omega)]
    rw [hl] at hi
    try simp 
    refine PreK.intro (by omega) fun _ => ?_
    try simp 
    have e1 : ((i : Int) + 1).toNat = i + 1 := by omega
    have e2 : i + 1 ≤ w.length := by simpa using hi
    try simp 
    refine PreK.intro (by omega) fun _ => ?_
    try simp 
    refine PreK.intro (by omega) fun _ => ?_
    try simp 
    simp [putW, hl, List.map_take, List.map_drop, List.take_of_length_le]
    rw [List.take_of_length_le (by simp; omega)]
  · have hl : long r = 0 := by simp at h; unfold long; rw [if_pos (by omega)]
    rw [hl] at hi
    have e2 : i ≤ w.length := by simpa using hi
    try simp 
    refine PreK.intro (by omega) fun _ => ?_
    try simp 
    refine PreK.intro (by omega) fun _ => ?_
    try simp 
    simp [putW, hl, List.map_take, List.map_drop, List.take_of_length_le]
    rw [List.take_of_length_le (by simp; omega)]
/-- The places of a rule, as the reference asks for them. -/
theorem risPlace_c (r : Rule) (w : List Int) (p : Int) (h : r.small) (hf : -1 ≤ r.frm) (hw : w.length ≤ 1000) : CallP Tryz.prog 163 [ruleV r, ints w, iv p] (bv (placeB r w p)) := by
  refine C163 (by simp) ?_
  simp [A163]
  refine CondK.intro (fun h1 => ?_) (fun h1 => ?_)
  · have hfr : r.frm = -1 := by simp at h1; omega
    try simp 
    try simp 
    repeat' (first
      | (refine CallX.pure (within2_c p 0 w.length) (by simp) (by simp) ?_; try simp )
      | (refine CallK.intro (within2_c p 0 w.length) (by simp) (by simp) ?_; try simp )
      | (refine CallG.intro (fun _ => within2_c p 0 w.length) (by simp) (by simp) ?_; try simp )
      | (refine CallX.pure (rat_c w (p - 1) hw) (by simp) (by simp) ?_; try simp )
      | (refine CallK.intro (rat_c w (p - 1) hw) (by simp) (by simp) ?_; try simp )
      | (refine CallG.intro (fun _ => rat_c w (p - 1) hw) (by simp) (by simp) ?_; try simp )
      | (refine CallX.pure (rat_c w p hw) (by simp) (by simp) ?_; try simp )
      | (refine CallK.intro (rat_c w p hw) (by simp) (by simp) ?_; try simp )
      | (refine CallG.intro (fun _ => rat_c w p hw) (by simp) (by simp) ?_; try simp )
      | (refine CallX.pure (rmay_c r.left (atW w (p - 1)) h.2.1) (by simp) (by simp) ?_; try simp )
      | (refine CallK.intro (rmay_c r.left (atW w (p - 1)) h.2.1) (by simp) (by simp) ?_; try simp )
      | (refine CallG.intro (fun _ => rmay_c r.left (atW w (p - 1)) h.2.1) (by simp) (by simp) ?_; try simp )
      | (refine CallX.pure (rmay_c r.right (atW w p) h.2.2) (by simp) (by simp) ?_; try simp )
      | (refine CallK.intro (rmay_c r.right (atW w p) h.2.2) (by simp) (by simp) ?_; try simp )
      | (refine CallG.intro (fun _ => rmay_c r.right (atW w p) h.2.2) (by simp) (by simp) ?_; try simp )
      | ((with_reducible refine PreK.intro ?_ ?_); (next => (first | omega | (intros; first | omega | (refine ⟨by omega, ?_⟩; repeat (first | assumption | constructor)) | assumption))); intro _; try simp )
      | fail)
    have hl : long r = 0 := by unfold long; rw [if_pos hfr]
    unfold placeB isAt
    rw [hl, hfr]
    by_cases hp : 0 ≤ p
    · have e : ((p.toNat : Nat) : Int) = p := Int.toNat_of_nonneg hp
      simp [e, Bool.and_assoc]
    · simp [hp]
  · have hfr : r.frm ≠ -1 := by simp at h1; omega
    have hl : long r = 1 := by unfold long; rw [if_neg hfr]
    try simp 
    refine PreK.intro (by omega) fun _ => ?_
    try simp 
    refine CallK.intro (by simpa using within2_c p 0 (w.length - 1)) (by simp) (by simp) ?_
    try simp 
    by_cases hp : 0 ≤ p ∧ p ≤ w.length - 1
    · obtain ⟨n, rfl⟩ := Int.eq_ofNat_of_zero_le hp.1
      have hn : n < w.length := by omega
      have hn1 : (n : Int) ≤ w.length - 1 := hp.2
      simp [hn, hn1]
      try simp 
      repeat' (first
        | (refine CallX.pure (rat_c w (n - 1) hw) (by simp) (by simp) ?_; try simp )
        | (refine CallK.intro (rat_c w (n - 1) hw) (by simp) (by simp) ?_; try simp )
        | (refine CallG.intro (fun _ => rat_c w (n - 1) hw) (by simp) (by simp) ?_; try simp )
        | (refine CallX.pure (rat_c w (n + 1) hw) (by simp) (by simp) ?_; try simp )
        | (refine CallK.intro (rat_c w (n + 1) hw) (by simp) (by simp) ?_; try simp )
        | (refine CallG.intro (fun _ => rat_c w (n + 1) hw) (by simp) (by simp) ?_; try simp )
        | (refine CallX.pure (rmay_c r.left (atW w ((n : Int) - 1)) h.2.1) (by simp) (by simp) ?_; try simp )
        | (refine CallK.intro (rmay_c r.left (atW w ((n : Int) - 1)) h.2.1) (by simp) (by simp) ?_; try simp )
        | (refine CallG.intro (fun _ => rmay_c r.left (atW w ((n : Int) - 1)) h.2.1) (by simp) (by simp) ?_; try simp )
        | (refine CallX.pure (rmay_c r.right (atW w ((n : Int) + 1)) h.2.2) (by simp) (by simp) ?_; try simp )
        | (refine CallK.intro (rmay_c r.right (atW w ((n : Int) + 1)) h.2.2) (by simp) (by simp) ?_; try simp )
        | (refine CallG.intro (fun _ => rmay_c r.right (atW w ((n : Int) + 1)) h.2.2) (by simp) (by simp) ?_; try simp )
        | ((with_reducible refine PreK.intro ?_ ?_); (next => (first | omega | (intros; first | omega | (refine ⟨by omega, ?_⟩; repeat (first | assumption | constructor)) | assumption))); intro _; try simp )
        | fail)
      unfold placeB isAt
      rw [hl]
      have e3 : decide ((n : Int) + 1 ≤ (w.length : Int)) = true := by simp; omega
      have e4 : decide ((0 : Int) ≤ (n : Int)) = true := by simp
      have e5 : decide (r.frm = -1) = false := by simp [hfr]
      rw [e3, e4, e5]
      simp
    · have e : (decide (0 ≤ p) && decide (p ≤ (w.length : Int) - 1)) = false := by
        by_cases h0 : 0 ≤ p
        · have : ¬ p ≤ (w.length : Int) - 1 := fun h1 => hp ⟨h0, h1⟩
          simp [this]
        · simp [h0]
      have hpl : placeB r w p = false := by
        unfold placeB
        rw [hl]
        by_cases h0 : 0 ≤ p
        · have : ¬ p + 1 ≤ (w.length : Int) := fun h1 => hp ⟨h0, by omega⟩
          simp [this]
        · simp [h0]
      rw [e, hpl]
      by_cases h0 : 0 ≤ p
      · have hge : w.length ≤ p.toNat := by have : ¬ p ≤ (w.length : Int) - 1 := fun h1 => hp ⟨h0, h1⟩; omega
        have hn := nth_ge iv w hge
        try simp [hn]
        repeat' (first
          | (refine CallX.pure (rat_c w (p - 1) hw) (by simp) (by simp) ?_; try simp [hn])
          | (refine CallK.intro (rat_c w (p - 1) hw) (by simp) (by simp) ?_; try simp [hn])
          | (refine CallG.intro (fun _ => rat_c w (p - 1) hw) (by simp) (by simp) ?_; try simp [hn])
          | (refine CallX.pure (rat_c w (p + 1) hw) (by simp) (by simp) ?_; try simp [hn])
          | (refine CallK.intro (rat_c w (p + 1) hw) (by simp) (by simp) ?_; try simp [hn])
          | (refine CallG.intro (fun _ => rat_c w (p + 1) hw) (by simp) (by simp) ?_; try simp [hn])
          | (refine CallX.pure (rmay_c r.left (atW w (p - 1)) h.2.1) (by simp) (by simp) ?_; try simp [hn])
          | (refine CallK.intro (rmay_c r.left (atW w (p - 1)) h.2.1) (by simp) (by simp) ?_; try simp [hn])
          | (refine CallG.intro (fun _ => rmay_c r.left (atW w (p - 1)) h.2.1) (by simp) (by simp) ?_; try simp [hn])
          | (refine CallX.pure (rmay_c r.right (atW w (p + 1)) h.2.2) (by simp) (by simp) ?_; try simp [hn])
          | (refine CallK.intro (rmay_c r.right (atW w (p + 1)) h.2.2) (by simp) (by simp) ?_; try simp [hn])
          | (refine CallG.intro (fun _ => rmay_c r.right (atW w (p + 1)) h.2.2) (by simp) (by simp) ?_; try simp [hn])
          | ((with_reducible refine PreK.intro ?_ ?_); (next => (first | omega | (intros; first | omega | (refine ⟨by omega, ?_⟩; repeat (first | assumption | constructor)) | assumption))); intro _; try simp [hn])
          | fail)
      · have hz : p.toNat = 0 := by omega
        cases w with
        | nil =>
          have hn : nth [] 0 = .junk := rfl
          try simp [hz, hn]
          repeat' (first
            | (refine CallX.pure (rat_c [] (p - 1) hw) (by simp) (by simp) ?_; try simp [hz, hn])
            | (refine CallK.intro (rat_c [] (p - 1) hw) (by simp) (by simp) ?_; try simp [hz, hn])
            | (refine CallG.intro (fun _ => rat_c [] (p - 1) hw) (by simp) (by simp) ?_; try simp [hz, hn])
            | (refine CallX.pure (rat_c [] (p + 1) hw) (by simp) (by simp) ?_; try simp [hz, hn])
            | (refine CallK.intro (rat_c [] (p + 1) hw) (by simp) (by simp) ?_; try simp [hz, hn])
            | (refine CallG.intro (fun _ => rat_c [] (p + 1) hw) (by simp) (by simp) ?_; try simp [hz, hn])
            | (refine CallX.pure (rmay_c r.left (atW [] (p - 1)) h.2.1) (by simp) (by simp) ?_; try simp [hz, hn])
            | (refine CallK.intro (rmay_c r.left (atW [] (p - 1)) h.2.1) (by simp) (by simp) ?_; try simp [hz, hn])
            | (refine CallG.intro (fun _ => rmay_c r.left (atW [] (p - 1)) h.2.1) (by simp) (by simp) ?_; try simp [hz, hn])
            | (refine CallX.pure (rmay_c r.right (atW [] (p + 1)) h.2.2) (by simp) (by simp) ?_; try simp [hz, hn])
            | (refine CallK.intro (rmay_c r.right (atW [] (p + 1)) h.2.2) (by simp) (by simp) ?_; try simp [hz, hn])
            | (refine CallG.intro (fun _ => rmay_c r.right (atW [] (p + 1)) h.2.2) (by simp) (by simp) ?_; try simp [hz, hn])
            | ((with_reducible refine PreK.intro ?_ ?_); (next => (first | omega | (intros; first | omega | (refine ⟨by omega, ?_⟩; repeat (first | assumption | constructor)) | assumption))); intro _; try simp [hz, hn])
            | fail)
        | cons x w =>
          try simp [hz]
          repeat' (first
            | (refine CallX.pure (rat_c (x :: w) (p - 1) hw) (by simp) (by simp) ?_; try simp [hz])
            | (refine CallK.intro (rat_c (x :: w) (p - 1) hw) (by simp) (by simp) ?_; try simp [hz])
            | (refine CallG.intro (fun _ => rat_c (x :: w) (p - 1) hw) (by simp) (by simp) ?_; try simp [hz])
            | (refine CallX.pure (rat_c (x :: w) (p + 1) hw) (by simp) (by simp) ?_; try simp [hz])
            | (refine CallK.intro (rat_c (x :: w) (p + 1) hw) (by simp) (by simp) ?_; try simp [hz])
            | (refine CallG.intro (fun _ => rat_c (x :: w) (p + 1) hw) (by simp) (by simp) ?_; try simp [hz])
            | (refine CallX.pure (rmay_c r.left (atW (x :: w) (p - 1)) h.2.1) (by simp) (by simp) ?_; try simp [hz])
            | (refine CallK.intro (rmay_c r.left (atW (x :: w) (p - 1)) h.2.1) (by simp) (by simp) ?_; try simp [hz])
            | (refine CallG.intro (fun _ => rmay_c r.left (atW (x :: w) (p - 1)) h.2.1) (by simp) (by simp) ?_; try simp [hz])
            | (refine CallX.pure (rmay_c r.right (atW (x :: w) (p + 1)) h.2.2) (by simp) (by simp) ?_; try simp [hz])
            | (refine CallK.intro (rmay_c r.right (atW (x :: w) (p + 1)) h.2.2) (by simp) (by simp) ?_; try simp [hz])
            | (refine CallG.intro (fun _ => rmay_c r.right (atW (x :: w) (p + 1)) h.2.2) (by simp) (by simp) ?_; try simp [hz])
            | ((with_reducible refine PreK.intro ?_ ?_); (next => (first | omega | (intros; first | omega | (refine ⟨by omega, ?_⟩; repeat (first | assumption | constructor)) | assumption))); intro _; try simp [hz])
            | fail)
end Go.Proofs.YtkhddecnllcaiaaGreat
end

section
/- Contracts: the reference's checks of rules, and its Apply. -/
namespace Go.Proofs.YtkhddecnllcaiaaGreat
open Go.Abs Go
set_option maxRecDepth 20000
set_option maxHeartbeats 2000000
attribute [local irreducible] PreK CondK CallK CallG CallX LoopK

theorem isNeighbor_eq (n : Int) : isNeighbor n = (decide (-1 ≤ n) && decide (n ≤ 5)) := by
  unfold isNeighbor isSound
  by_cases h : n = -1
  · subst h; rfl
  · have : decide (0 ≤ n) = decide (-1 ≤ n) := by congr 1; simp only [eq_iff_iff]; omega
    simp [h, this]
theorem rIsSet_c (l : List Int) (hl : l.length ≤ 1000) : CallP Tryz.prog 172 [ints l, iv (-1), iv 5] (bv (setF none l)) := by
  refine C172 (by simp) ?_
  generalize hR : setF none l = R
  simp [A172]
  refine LoopK.by (fun i : Nat => ⟨[(7, iv i), (0, ints l), (1, iv (-1)), (2, iv 5)], []⟩) (fun i => l.length - i) (fun i => i ≤ l.length ∧ setF (prevOf l i) (l.drop i) = R) 0 (by simpa [prevOf] using hR) (by simp) ?_
  intro i Q' ⟨hi, hc⟩ hq he hr
  try simp 
  refine CondK.intro (fun h => ?_) (fun h => ?_)
  · simp at h
    rw [drop_cons l i h, setF_cons] at hc
    have e1 : ((i : Int) - 1).toNat = i - 1 := by omega
    have h1 : i - 1 < l.length := by omega
    simp [h]
    try simp [e1, h1, h]
    repeat' (first
      | (refine CallX.pure (within1_c (el l i) (-1) 5) (by simp) (by simp) ?_; try simp [e1, h1, h])
      | (refine CallK.intro (within1_c (el l i) (-1) 5) (by simp) (by simp) ?_; try simp [e1, h1, h])
      | (refine CallG.intro (fun _ => within1_c (el l i) (-1) 5) (by simp) (by simp) ?_; try simp [e1, h1, h])
      | ((with_reducible refine PreK.intro ?_ ?_); (next => (first | omega | (intros; first | omega | (refine ⟨by omega, ?_⟩; repeat (first | assumption | constructor)) | assumption))); intro _; try simp [e1, h1, h])
      | fail)
    have hprev : lessO (prevOf l i) (el l i) = (!(decide (0 < i) && decide (el l i ≤ el l (i - 1)))) := by
      unfold prevOf
      by_cases h0 : i = 0
      · simp [h0, lessO]
      · simp [h0, lessO, show 0 < i by omega]
        by_cases h6 : el l (i - 1) < el l i
        · simp [h6]
        · simp [h6]; omega
    rw [hprev] at hc
    have hnb : (!decide (-1 ≤ el l i) || !decide (el l i ≤ 5)) = !isNeighbor (el l i) := by rw [isNeighbor_eq]; simp
    rw [hnb]
    refine CondK.intro (fun h4 => ?_) (fun h4 => ?_)
    · have : (isNeighbor (el l i) && !(decide (0 < i) && decide (el l i ≤ el l (i - 1)))) = false := by
        revert h4; cases isNeighbor (el l i) <;> cases decide (0 < i) <;> cases decide (el l i ≤ el l (i - 1)) <;> simp
      rw [this] at hc
      simp at hc
      try simp 
      apply hr
      simp [hc]
    · have : (isNeighbor (el l i) && !(decide (0 < i) && decide (el l i ≤ el l (i - 1)))) = true := by
        revert h4; cases isNeighbor (el l i) <;> cases decide (0 < i) <;> cases decide (el l i ≤ el l (i - 1)) <;> simp
      rw [this] at hc
      simp at hc
      try simp 
      refine PreK.intro (by omega) fun _ => ?_
      try simp 
      exact hq (i + 1) _ ⟨by omega, by simpa [prevOf] using hc⟩ (by omega) (by simp)
  · simp at h
    rw [List.drop_eq_nil_of_le (by omega)] at hc
    simp [setF] at hc
    try simp 
    apply he
    simp [hc]
theorem rValidate_c (r : Rule) (h : r.small) : CallP Tryz.prog 142 [ruleV r] (iv (ruleErr r)) := by
  refine C142 (by simp) ?_
  generalize hR : ruleErr r = R
  unfold ruleErr at hR
  simp [A142]
  try simp 
  repeat' (first
    | (refine CallX.pure (within2_c r.frm (-1) 5) (by simp) (by simp) ?_; try simp )
    | (refine CallK.intro (within2_c r.frm (-1) 5) (by simp) (by simp) ?_; try simp )
    | (refine CallG.intro (fun _ => within2_c r.frm (-1) 5) (by simp) (by simp) ?_; try simp )
    | ((with_reducible refine PreK.intro ?_ ?_); (next => (first | omega | (intros; first | omega | (refine ⟨by omega, ?_⟩; repeat (first | assumption | constructor)) | assumption))); intro _; try simp )
    | fail)
  have hnb : (!decide (-1 ≤ r.frm) || !decide (r.frm ≤ 5)) = !isNeighbor r.frm := by rw [isNeighbor_eq]; simp
  rw [hnb]
  refine CondK.intro (fun h1 => ?_) (fun h1 => ?_)
  · simp at h1
    simp [h1] at hR
    simp [hR]
  · simp at h1
    simp only [h1, Bool.not_true, Bool.false_eq_true, if_false] at hR
    try simp 
    refine CondK.intro (fun h4 => ?_) (fun h4 => ?_)
    · simp at h4
      rw [if_pos (by omega)] at hR
      simp [hR]
    · simp at h4
      rw [if_neg (by omega)] at hR
      try simp 
      try simp 
      repeat' (first
        | (refine CallX.pure (isWord_c r.to h.1) (by simp) (by simp) ?_; try simp )
        | (refine CallK.intro (isWord_c r.to h.1) (by simp) (by simp) ?_; try simp )
        | (refine CallG.intro (fun _ => isWord_c r.to h.1) (by simp) (by simp) ?_; try simp )
        | (refine CallX.pure (rIsSet_c r.left h.2.1) (by simp) (by simp) ?_; try simp )
        | (refine CallK.intro (rIsSet_c r.left h.2.1) (by simp) (by simp) ?_; try simp )
        | (refine CallG.intro (fun _ => rIsSet_c r.left h.2.1) (by simp) (by simp) ?_; try simp )
        | (refine CallX.pure (rIsSet_c r.right h.2.2) (by simp) (by simp) ?_; try simp )
        | (refine CallK.intro (rIsSet_c r.right h.2.2) (by simp) (by simp) ?_; try simp )
        | (refine CallG.intro (fun _ => rIsSet_c r.right h.2.2) (by simp) (by simp) ?_; try simp )
        | ((with_reducible refine PreK.intro ?_ ?_); (next => (first | omega | (intros; first | omega | (refine ⟨by omega, ?_⟩; repeat (first | assumption | constructor)) | assumption))); intro _; try simp )
        | fail)
      refine CondK.intro (fun h5 => ?_) (fun h5 => ?_)
      · rw [if_pos (by simpa using h5)] at hR
        simp [hR]
      · rw [if_neg (by simpa using h5)] at hR
        have hneg : decide (r.frm < 0) = decide (r.frm = -1) := by
          rw [isNeighbor_eq] at h1
          simp at h1
          congr 1; simp only [eq_iff_iff]; omega
        obtain ⟨frm, to, left, right⟩ := r
        simp only at *
        match to, h4 with
        | [], _ =>
          try simp 
          repeat' (first
            | ((with_reducible refine PreK.intro ?_ ?_); (next => (first | omega | (intros; first | omega | (refine ⟨by omega, ?_⟩; repeat (first | assumption | constructor)) | assumption))); intro _; try simp )
            | fail)
          rw [hneg]
          refine CondK.intro (fun h6 => ?_) (fun h6 => ?_)
          · simp at h6
            simp [h6] at hR
            simp [hR]
          · simp at h6
            simp [h6] at hR
            simp [hR]
        | [a], _ =>
          try simp 
          repeat' (first
            | ((with_reducible refine PreK.intro ?_ ?_); (next => (first | omega | (intros; first | omega | (refine ⟨by omega, ?_⟩; repeat (first | assumption | constructor)) | assumption))); intro _; try simp )
            | fail)
          refine CondK.intro (fun h6 => ?_) (fun h6 => ?_)
          · simp at h6
            simp [h6] at hR
            simp [hR]
          · simp at h6
            simp [h6] at hR
            simp [hR]
        | [a, b], _ =>
          try simp 
          repeat' (first
            | ((with_reducible refine PreK.intro ?_ ?_); (next => (first | omega | (intros; first | omega | (refine ⟨by omega, ?_⟩; repeat (first | assumption | constructor)) | assumption))); intro _; try simp )
            | fail)
          refine CondK.intro (fun h6 => ?_) (fun h6 => ?_)
          · simp at h6
          · simp at hR
            simp [hR]
theorem rasked_c (r : Rule) (w : List Int) (h : r.small) (hw : w.length ≤ 1000) : CallP Tryz.prog 162 [ruleV r, ints w] (iv (wordedErr r w)) := by
  refine C162 (by simp) ?_
  generalize hR : wordedErr r w = R
  unfold wordedErr at hR
  simp [A162]
  try simp 
  repeat' (first
    | (refine CallX.pure (rValidate_c r h) (by simp) (by simp) ?_; try simp )
    | (refine CallK.intro (rValidate_c r h) (by simp) (by simp) ?_; try simp )
    | (refine CallG.intro (fun _ => rValidate_c r h) (by simp) (by simp) ?_; try simp )
    | ((with_reducible refine PreK.intro ?_ ?_); (next => (first | omega | (intros; first | omega | (refine ⟨by omega, ?_⟩; repeat (first | assumption | constructor)) | assumption))); intro _; try simp )
    | fail)
  refine CondK.intro (fun h1 => ?_) (fun h1 => ?_)
  · simp at h1
    simp [h1] at hR
    simp [hR]
  · simp at h1
    simp [h1] at hR
    try simp 
    try simp 
    repeat' (first
      | (refine CallX.pure (rValidateWord_c w hw) (by simp) (by simp) ?_; try simp )
      | (refine CallK.intro (rValidateWord_c w hw) (by simp) (by simp) ?_; try simp )
      | (refine CallG.intro (fun _ => rValidateWord_c w hw) (by simp) (by simp) ?_; try simp )
      | ((with_reducible refine PreK.intro ?_ ?_); (next => (first | omega | (intros; first | omega | (refine ⟨by omega, ?_⟩; repeat (first | assumption | constructor)) | assumption))); intro _; try simp )
      | fail)
    simp [hR]
theorem ruleErr_frm {r : Rule} (h : ruleErr r = 0) : isNeighbor r.frm = true := by
  unfold ruleErr at h
  by_cases h0 : (!isNeighbor r.frm) = true
  · rw [if_pos h0] at h; cases h
  · simpa using h0
theorem rApply_c (r : Rule) (w : List Int) (p : Int) (h : r.small) (hw : w.length ≤ 1000) : CallP Tryz.prog 128 [ruleV r, ints w, iv p] (.tup [ints (applyM r w p).1, iv (applyM r w p).2]) := by
  refine C128 (by simp) ?_
  simp [A128]
  try simp 
  repeat' (first
    | (refine CallX.pure (rasked_c r w h hw) (by simp) (by simp) ?_; try simp )
    | (refine CallK.intro (rasked_c r w h hw) (by simp) (by simp) ?_; try simp )
    | (refine CallG.intro (fun _ => rasked_c r w h hw) (by simp) (by simp) ?_; try simp )
    | ((with_reducible refine PreK.intro ?_ ?_); (next => (first | omega | (intros; first | omega | (refine ⟨by omega, ?_⟩; repeat (first | assumption | constructor)) | assumption))); intro _; try simp )
    | fail)
  refine CondK.intro (fun h1 => ?_) (fun h1 => ?_)
  · simp at h1
    simp [applyM, h1]
  · simp at h1
    obtain ⟨h2, h3⟩ := wordedErr_zero h1
    obtain ⟨h4, h5⟩ := wordErr_zero h3
    have hf : -1 ≤ r.frm := by have := ruleErr_frm h2; simp [isNeighbor, isSound] at this; omega
    try simp 
    repeat' (first
      | (refine CallX.pure (risPlace_c r w p h hf hw) (by simp) (by simp) ?_; try simp )
      | (refine CallK.intro (risPlace_c r w p h hf hw) (by simp) (by simp) ?_; try simp )
      | (refine CallG.intro (fun _ => risPlace_c r w p h hf hw) (by simp) (by simp) ?_; try simp )
      | ((with_reducible refine PreK.intro ?_ ?_); (next => (first | omega | (intros; first | omega | (refine ⟨by omega, ?_⟩; repeat (first | assumption | constructor)) | assumption))); intro _; try simp )
      | fail)
    refine CondK.intro (fun h6 => ?_) (fun h6 => ?_)
    · simp at h6
      simp [applyM, h1, h6]
    · simp at h6
      have h6' := h6
      simp only [placeB, Bool.and_eq_true, decide_eq_true_eq] at h6'
      have hl := long_cases r
      obtain ⟨n, rfl⟩ := Int.eq_ofNat_of_zero_le h6'.1
      have ht := ruleErr_to h2
      have e1 : n + (long r).toNat ≤ w.length := by omega
      have e2 := rput_c r w n e1 (by omega) (by omega) (by omega)
      try simp 
      repeat' (first
        | (refine CallX.pure (e2) (by simp) (by simp) ?_; try simp )
        | (refine CallK.intro (e2) (by simp) (by simp) ?_; try simp )
        | (refine CallG.intro (fun _ => e2) (by simp) (by simp) ?_; try simp )
        | (refine CallX.pure (rtold_c (putW r w n)) (by simp) (by simp) ?_; try simp )
        | (refine CallK.intro (rtold_c (putW r w n)) (by simp) (by simp) ?_; try simp )
        | (refine CallG.intro (fun _ => rtold_c (putW r w n)) (by simp) (by simp) ?_; try simp )
        | ((with_reducible refine PreK.intro ?_ ?_); (next => (first | omega | (intros; first | omega | (refine ⟨by omega, ?_⟩; repeat (first | assumption | constructor)) | assumption))); intro _; try simp )
        | fail)
      by_cases h7 : 8 < (putW r w n).length
      · simp [applyM, h1, h6, h7, shortErr]
      · simp [applyM, h1, h6, h7, shortErr]
end Go.Proofs.YtkhddecnllcaiaaGreat
end

section
/- Contracts: systems and their steps. -/
namespace Go.Proofs.YtkhddecnllcaiaaGreat
open Go.Abs Go
set_option maxRecDepth 20000
set_option maxHeartbeats 2000000
attribute [local irreducible] PreK CondK CallK CallG CallX LoopK

def Sys.small (s : List Rule) : Prop := s.length ≤ 1000 ∧ ∀ r ∈ s, r.small
theorem Sys.small.el {s : List Rule} (h : Sys.small s) {i : Nat} (hi : i < s.length) : (el s i).small := by
  rw [el_eq s i hi]; exact h.2 _ (List.getElem_mem hi)
@[simp] def moveV (x : Move) : AV := .agg [iv x.step.rule, iv x.step.place, ints x.word]
@[simp] def movesV (l : List Move) : AV := .seq 3 (l.map moveV) false
@[simp] theorem nth_move (l : List Move) (k : Nat) (h : k < l.length) : nth (l.map moveV) k = moveV (el l k) := nth_map moveV l k h
theorem Validate_c (s : List Rule) (h : Sys.small s) : CallP Tryz.prog 72 [rulesV s] (iv (sysErr s)) := by
  refine C72 (by simp) ?_
  generalize hR : sysErr s = R
  unfold sysErr at hR
  have hl := h.1
  simp [A72]
  refine CondK.intro (fun h1 => ?_) (fun h1 => ?_)
  · simp at h1
    rw [if_pos (by omega)] at hR
    simp [hR]
  · simp at h1
    rw [if_neg (by omega)] at hR
    try simp 
    refine LoopK.by (fun i : Nat => ⟨[(11, iv i), (10, iv s.length), (9, rulesV s)], []⟩) (fun i => s.length - i) (fun i => i ≤ s.length ∧ firstErr (s.drop i) = R) 0 (by simpa using hR) (by simp) ?_
    intro i Q' ⟨hi, hc⟩ hq he hr
    try simp 
    refine CondK.intro (fun h2 => ?_) (fun h2 => ?_)
    · simp at h2
      rw [drop_cons s i h2, firstErr] at hc
      simp [h2]
      try simp 
      repeat' (first
        | (refine CallX.pure (validate_s (h.el h2)) (by simp) (by simp) ?_; try simp )
        | (refine CallK.intro (validate_s (h.el h2)) (by simp) (by simp) ?_; try simp )
        | (refine CallG.intro (fun _ => validate_s (h.el h2)) (by simp) (by simp) ?_; try simp )
        | ((with_reducible refine PreK.intro ?_ ?_); (next => (first | omega | (intros; first | omega | (refine ⟨by omega, ?_⟩; repeat (first | assumption | constructor)) | assumption))); intro _; try simp )
        | fail)
      refine CondK.intro (fun h3 => ?_) (fun h3 => ?_)
      · simp at h3
        simp [h3] at hc
        try simp 
        apply hr
        simp [hc]
      · simp at h3
        simp [h3] at hc
        try simp 
        refine PreK.intro (by omega) fun _ => ?_
        try simp 
        exact hq (i + 1) _ ⟨by omega, hc⟩ (by omega) (by simp)
    · simp at h2
      rw [List.drop_eq_nil_of_le (by omega)] at hc
      simp [firstErr] at hc
      try simp 
      apply he
      simp [hc]
theorem rsValidate_c (s : List Rule) (h : Sys.small s) : CallP Tryz.prog 97 [rulesV s] (iv (sysErr s)) := by
  refine C97 (by simp) ?_
  generalize hR : sysErr s = R
  unfold sysErr at hR
  have hl := h.1
  simp [A97]
  refine CondK.intro (fun h1 => ?_) (fun h1 => ?_)
  · simp at h1
    rw [if_pos (by omega)] at hR
    simp [hR]
  · simp at h1
    rw [if_neg (by omega)] at hR
    try simp 
    refine LoopK.by (fun i : Nat => ⟨[(3, iv i), (0, rulesV s)], []⟩) (fun i => s.length - i) (fun i => i ≤ s.length ∧ firstErr (s.drop i) = R) 0 (by simpa using hR) (by simp) ?_
    intro i Q' ⟨hi, hc⟩ hq he hr
    try simp 
    refine CondK.intro (fun h2 => ?_) (fun h2 => ?_)
    · simp at h2
      rw [drop_cons s i h2, firstErr] at hc
      simp [h2]
      try simp 
      repeat' (first
        | (refine CallX.pure (rValidate_c (el s i) (h.el h2)) (by simp) (by simp) ?_; try simp )
        | (refine CallK.intro (rValidate_c (el s i) (h.el h2)) (by simp) (by simp) ?_; try simp )
        | (refine CallG.intro (fun _ => rValidate_c (el s i) (h.el h2)) (by simp) (by simp) ?_; try simp )
        | ((with_reducible refine PreK.intro ?_ ?_); (next => (first | omega | (intros; first | omega | (refine ⟨by omega, ?_⟩; repeat (first | assumption | constructor)) | assumption))); intro _; try simp )
        | fail)
      refine CondK.intro (fun h3 => ?_) (fun h3 => ?_)
      · simp at h3
        simp [h3] at hc
        try simp 
        apply hr
        simp [hc]
      · simp at h3
        simp [h3] at hc
        try simp 
        refine PreK.intro (by omega) fun _ => ?_
        try simp 
        exact hq (i + 1) _ ⟨by omega, hc⟩ (by omega) (by simp)
    · simp at h2
      rw [List.drop_eq_nil_of_le (by omega)] at hc
      simp [firstErr] at hc
      try simp 
      apply he
      simp [hc]
def firstW : List (List Int) → Int
  | [] => 0
  | w :: l => if wordErr w ≠ 0 then wordErr w else firstW l
def checkErr (s : List Rule) (ws : List (List Int)) : Int := if sysErr s ≠ 0 then sysErr s else firstW ws
theorem check_c (s : List Rule) (ws : List (List Int)) (h : Sys.small s) (hn : ws.length ≤ 1000) (hw : ∀ w ∈ ws, w.length ≤ 1000) : CallP Tryz.prog 74 [rulesV s, .seq 1 (ws.map ints) false] (iv (checkErr s ws)) := by
  refine C74 (by simp) ?_
  generalize hR : checkErr s ws = R
  unfold checkErr at hR
  simp [A74]
  try simp 
  repeat' (first
    | (refine CallX.pure (Validate_c s h) (by simp) (by simp) ?_; try simp )
    | (refine CallK.intro (Validate_c s h) (by simp) (by simp) ?_; try simp )
    | (refine CallG.intro (fun _ => Validate_c s h) (by simp) (by simp) ?_; try simp )
    | ((with_reducible refine PreK.intro ?_ ?_); (next => (first | omega | (intros; first | omega | (refine ⟨by omega, ?_⟩; repeat (first | assumption | constructor)) | assumption))); intro _; try simp )
    | fail)
  refine CondK.intro (fun h1 => ?_) (fun h1 => ?_)
  · simp at h1
    simp [h1] at hR
    simp [hR]
  · simp at h1
    simp [h1] at hR
    try simp 
    refine LoopK.by (fun i : Nat => ⟨[(16, iv i), (15, iv ws.length), (14, .seq 1 (ws.map ints) false)], []⟩) (fun i => ws.length - i) (fun i => i ≤ ws.length ∧ firstW (ws.drop i) = R) 0 (by simpa using hR) (by simp) ?_
    intro i Q' ⟨hi, hc⟩ hq he hr
    try simp 
    refine CondK.intro (fun h2 => ?_) (fun h2 => ?_)
    · simp at h2
      rw [drop_cons ws i h2, firstW] at hc
      have hwi : (el ws i).length ≤ big := by
        have := hw (el ws i) (by rw [el_eq ws i h2]; exact List.getElem_mem h2)
        simp only [big]; omega
      simp [h2]
      try simp 
      repeat' (first
        | (refine CallX.pure (validateWord_c (el ws i) hwi) (by simp) (by simp) ?_; try simp )
        | (refine CallK.intro (validateWord_c (el ws i) hwi) (by simp) (by simp) ?_; try simp )
        | (refine CallG.intro (fun _ => validateWord_c (el ws i) hwi) (by simp) (by simp) ?_; try simp )
        | ((with_reducible refine PreK.intro ?_ ?_); (next => (first | omega | (intros; first | omega | (refine ⟨by omega, ?_⟩; repeat (first | assumption | constructor)) | assumption))); intro _; try simp )
        | fail)
      refine CondK.intro (fun h3 => ?_) (fun h3 => ?_)
      · simp at h3
        simp [h3] at hc
        try simp 
        apply hr
        simp [hc]
      · simp at h3
        simp [h3] at hc
        try simp 
        refine PreK.intro (by omega) fun _ => ?_
        try simp 
        exact hq (i + 1) _ ⟨by omega, hc⟩ (by omega) (by simp)
    · simp at h2
      rw [List.drop_eq_nil_of_le (by omega)] at hc
      simp [firstW] at hc
      try simp 
      apply he
      simp [hc]
theorem check_one (s : List Rule) (w : List Int) : checkErr s [w] = swErr s w := by
  unfold checkErr swErr
  by_cases h : sysErr s = 0
  · by_cases h2 : wordErr w = 0 <;> simp [h, h2, firstW]
  · simp [h]
theorem rworded_c (s : List Rule) (w v : List Int) (h : Sys.small s) (hw : w.length ≤ 1000) (hv : v.length ≤ 1000) : CallP Tryz.prog 77 [rulesV s, ints w, ints v] (iv (checkErr s [w, v])) := by
  refine C77 (by simp) ?_
  generalize hR : checkErr s [w, v] = R
  unfold checkErr at hR
  simp [A77]
  try simp 
  repeat' (first
    | (refine CallX.pure (rsValidate_c s h) (by simp) (by simp) ?_; try simp )
    | (refine CallK.intro (rsValidate_c s h) (by simp) (by simp) ?_; try simp )
    | (refine CallG.intro (fun _ => rsValidate_c s h) (by simp) (by simp) ?_; try simp )
    | ((with_reducible refine PreK.intro ?_ ?_); (next => (first | omega | (intros; first | omega | (refine ⟨by omega, ?_⟩; repeat (first | assumption | constructor)) | assumption))); intro _; try simp )
    | fail)
  refine CondK.intro (fun h1 => ?_) (fun h1 => ?_)
  · simp at h1
    simp [h1] at hR
    simp [hR]
  · simp at h1
    simp [h1] at hR
    try simp 
    try simp 
    repeat' (first
      | (refine CallX.pure (rValidateWord_c w hw) (by simp) (by simp) ?_; try simp )
      | (refine CallK.intro (rValidateWord_c w hw) (by simp) (by simp) ?_; try simp )
      | (refine CallG.intro (fun _ => rValidateWord_c w hw) (by simp) (by simp) ?_; try simp )
      | ((with_reducible refine PreK.intro ?_ ?_); (next => (first | omega | (intros; first | omega | (refine ⟨by omega, ?_⟩; repeat (first | assumption | constructor)) | assumption))); intro _; try simp )
      | fail)
    refine CondK.intro (fun h2 => ?_) (fun h2 => ?_)
    · simp at h2
      simp [h2, firstW] at hR
      simp [hR]
    · simp at h2
      simp [h2, firstW] at hR
      try simp 
      try simp 
      repeat' (first
        | (refine CallX.pure (rValidateWord_c v hv) (by simp) (by simp) ?_; try simp )
        | (refine CallK.intro (rValidateWord_c v hv) (by simp) (by simp) ?_; try simp )
        | (refine CallG.intro (fun _ => rValidateWord_c v hv) (by simp) (by simp) ?_; try simp )
        | ((with_reducible refine PreK.intro ?_ ?_); (next => (first | omega | (intros; first | omega | (refine ⟨by omega, ?_⟩; repeat (first | assumption | constructor)) | assumption))); intro _; try simp )
        | fail)
      rw [← hR]
      by_cases h3 : wordErr v = 0 <;> simp [h3]
theorem check_nil (s : List Rule) (w : List Int) : checkErr s [w, []] = swErr s w := by
  rw [← check_one]
  unfold checkErr
  by_cases h : sysErr s = 0
  · have : wordErr [] = 0 := by decide
    simp [h, firstW, this]
  · simp [h]
end Go.Proofs.YtkhddecnllcaiaaGreat
end

section
/- Contracts: the steps of a word. -/
namespace Go.Proofs.YtkhddecnllcaiaaGreat
open Go.Abs Go
set_option maxRecDepth 20000
set_option maxHeartbeats 2000000
attribute [local irreducible] PreK CondK CallK CallG CallX LoopK

/-- The steps of a rule at given places. -/
def moveI (r : Rule) (w : List Int) (k : Nat) (p : Int) : List Move := if (applyM r w p).2 = 0 then [⟨⟨k, p⟩, (applyM r w p).1⟩] else []
def movesP (r : Rule) (w : List Int) (k : Nat) : List Int → List Move
  | [] => []
  | p :: l => moveI r w k p ++ movesP r w k l
theorem applyM_not {r : Rule} {w : List Int} {p : Int} (h : wordedErr r w = 0) (hp : placeB r w p = false) : (applyM r w p).2 = 6 := by simp [applyM, h, hp]
theorem moveI_not {r : Rule} {w : List Int} {k : Nat} {p : Int} (h : wordedErr r w = 0) (hp : placeB r w p = false) : moveI r w k p = [] := by simp [moveI, applyM_not h hp]
theorem movesP_places {r : Rule} {w : List Int} {k : Nat} (h : wordedErr r w = 0) : ∀ (n i : Nat), i + n ≤ w.length + 1 - (long r).toNat → movesP r w k (placesF r w i n) = movesR r w k i n
  | 0, i, _ => rfl
  | n + 1, i, hn => by
    have ih := movesP_places (k := k) h n (i + 1) (by omega)
    have hl := long_cases r
    unfold placesF movesR
    by_cases ha : isAt r w i = true
    · rw [if_pos ha, movesP, ih]; rfl
    · rw [if_neg ha, ih]
      have : placeB r w i = false := by
        unfold placeB
        have e : isAt r w ((i : Int).toNat) = false := by simpa using ha
        rw [e]; simp
      have e2 : moveAt r w k i = moveI r w k i := rfl
      rw [e2, moveI_not h this, List.nil_append]
theorem movesR_end {r : Rule} {w : List Int} {k : Nat} (h : wordedErr r w = 0) : ∀ (n i : Nat), w.length + 1 - (long r).toNat ≤ i → movesR r w k i n = []
  | 0, i, _ => rfl
  | n + 1, i, hi => by
    rw [movesR, movesR_end (k := k) h n (i + 1) (by omega)]
    have : placeB r w i = false := by
      unfold placeB
      have hl := long_cases r
      have : ¬ ((i : Int) + long r ≤ w.length) := by omega
      simp [this]
    have e2 : moveAt r w k i = moveI r w k i := rfl
    rw [e2, moveI_not h this]
    rfl
theorem movesR_add {r : Rule} {w : List Int} {k : Nat} : ∀ (n m i : Nat), movesR r w k i (n + m) = movesR r w k i n ++ movesR r w k (i + n) m
  | 0, m, i => by simp [movesR]
  | n + 1, m, i => by
    rw [show n + 1 + m = (n + m) + 1 by omega, movesR, movesR, movesR_add n m (i + 1), List.append_assoc, show i + 1 + n = i + (n + 1) by omega]
theorem movesP_all {r : Rule} {w : List Int} {k : Nat} (h : wordedErr r w = 0) : movesP r w k (placesM r w) = movesR r w k 0 (w.length + 1) := by
  have hl := long_cases r
  have e : w.length + 1 = (w.length + 1 - (long r).toNat) + (long r).toNat := by omega
  have e1 := movesR_end (k := k) h (long r).toNat (0 + (w.length + 1 - (long r).toNat)) (by omega)
  rw [e, movesR_add, e1, List.append_nil]
  exact movesP_places h _ 0 (by omega)
theorem moveI_len (r : Rule) (w : List Int) (k : Nat) (p : Int) : (moveI r w k p).length ≤ 1 := by unfold moveI; split <;> simp
theorem firstErr_el {s : List Rule} (h : firstErr s = 0) : ∀ r ∈ s, ruleErr r = 0 := by
  induction s with
  | nil => intro r hr; cases hr
  | cons r0 s ih =>
    unfold firstErr at h
    by_cases h0 : ruleErr r0 = 0
    · simp [h0] at h
      intro r hr
      rcases List.mem_cons.1 hr with rfl | hr
      · exact h0
      · exact ih h r hr
    · simp [h0] at h
theorem sysErr_zero {s : List Rule} (h : sysErr s = 0) : s.length ≤ 6 ∧ ∀ r ∈ s, ruleErr r = 0 := by
  unfold sysErr at h
  by_cases h1 : 6 < s.length
  · simp [h1] at h
  · simp [h1] at h
    exact ⟨by omega, firstErr_el h⟩
theorem wordedErr_of {r : Rule} {w : List Int} (h : ruleErr r = 0) (hw : wordErr w = 0) : wordedErr r w = 0 := by simp [wordedErr, h, hw]

theorem moves_c (s : List Rule) (w : List Int) (h : Sys.small s) (hs : sysErr s = 0) (hw : wordErr w = 0) : CallP Tryz.prog 76 [rulesV s, ints w] (movesV (movesM s w)) := by
  refine C76 (by simp) ?_
  generalize hR : movesM s w = R
  unfold movesM at hR
  obtain ⟨hs6, hsr⟩ := sysErr_zero hs
  obtain ⟨hw8, hww⟩ := wordErr_zero hw
  have hw1 : w.length ≤ 1000 := by omega
  simp [A76]
  refine LoopK.by (ι := Nat × Nat × List Move) (fun i => ⟨[(16, iv i.1), (15, iv s.length), (14, rulesV s), (1, ints w), (5, .sl 5 i.2.1 0 i.2.2.length)], [(5, some ⟨3, i.2.2.map moveV, i.2.1, false⟩)]⟩) (fun i => s.length - i.1)
    (fun i => i.1 ≤ s.length ∧ i.2.2.length ≤ 10 * i.1 ∧ i.2.2 ++ movesF w i.1 (s.drop i.1) = R) (0, 1, []) (by simpa using hR) (by simp) ?_
  intro ⟨i, ver, acc⟩ Q' ⟨hi, ha, hc⟩ hq he hr
  dsimp only at hi ha hc
  try simp 
  refine CondK.intro (fun h1 => ?_) (fun h1 => ?_)
  · simp at h1
    have hri : ruleErr (el s i) = 0 := hsr _ (by rw [el_eq s i h1]; exact List.getElem_mem h1)
    have hwi := wordedErr_of hri hw
    have hsm := h.el h1
    rw [drop_cons s i h1, movesF, ← movesP_all hwi] at hc
    have hpl := placesM_len (el s i) w
    have hP : PlacesM (el s i) w = (placesM (el s i) w, 0) := by simp [PlacesM, hwi]
    have hPc : CallP Tryz.prog 101 [ruleV (el s i), ints w] (.tup [ints (placesM (el s i) w), iv 0]) := by
      have := Places_c (el s i) w hsm hw1
      rwa [hP] at this
    generalize placesM (el s i) w = ps at hc hpl hPc
    simp [h1]
    try simp 
    repeat' (first
      | (refine CallX.pure (hPc) (by simp) (by simp) ?_; try simp )
      | (refine CallK.intro (hPc) (by simp) (by simp) ?_; try simp )
      | (refine CallG.intro (fun _ => hPc) (by simp) (by simp) ?_; try simp )
      | ((with_reducible refine PreK.intro ?_ ?_); (next => (first | omega | (intros; first | omega | (refine ⟨by omega, ?_⟩; repeat (first | assumption | constructor)) | assumption))); intro _; try simp )
      | fail)
    refine LoopK.by (ι := Nat × Nat × List Move) (fun j => ⟨[(29, iv j.1), (28, iv ps.length), (27, ints ps), (6, iv i), (7, .pt 7 1 0 0), (16, iv i), (15, iv s.length), (14, rulesV s), (1, ints w), (5, .sl 5 j.2.1 0 j.2.2.length)],
      [(5, some ⟨3, j.2.2.map moveV, j.2.1, false⟩), (7, some ⟨4, [ruleV (el s i)], 1, true⟩)]⟩) (fun j => ps.length - j.1)
      (fun j => j.1 ≤ ps.length ∧ j.2.2.length ≤ 10 * i + j.1 ∧ j.2.2 ++ (movesP (el s i) w i (ps.drop j.1) ++ movesF w (i + 1) (s.drop (i + 1))) = R) (0, ver, acc) (by simp; exact ⟨ha, hc⟩) (by simp) ?_
    intro ⟨j, ver', acc'⟩ Q'' ⟨hj, ha', hc'⟩ hq' he' hr'
    dsimp only at hj ha' hc'
    try simp 
    refine CondK.intro (fun h2 => ?_) (fun h2 => ?_)
    · simp at h2
      rw [drop_cons ps j h2, movesP] at hc'
      simp [h2]
      try simp 
      repeat' (first
        | (refine CallX.pure (Apply_c (el s i) w (el ps j) hsm hw1) (by simp) (by simp) ?_; try simp )
        | (refine CallK.intro (Apply_c (el s i) w (el ps j) hsm hw1) (by simp) (by simp) ?_; try simp )
        | (refine CallG.intro (fun _ => Apply_c (el s i) w (el ps j) hsm hw1) (by simp) (by simp) ?_; try simp )
        | ((with_reducible refine PreK.intro ?_ ?_); (next => (first | omega | (intros; first | omega | (refine ⟨by omega, ?_⟩; repeat (first | assumption | constructor)) | assumption))); intro _; try simp )
        | fail)
      refine CondK.intro (fun h3 => ?_) (fun h3 => ?_)
      · simp at h3
        have e : moveI (el s i) w i (el ps j) = [⟨⟨i, el ps j⟩, (applyM (el s i) w (el ps j)).1⟩] := by simp [moveI, h3]
        rw [e] at hc'
        try simp 
        repeat' (first
          | ((with_reducible refine PreK.intro ?_ ?_); (next => (first | omega | (intros; first | omega | (refine ⟨by omega, ?_⟩; repeat (first | assumption | constructor)) | assumption))); intro _; try simp )
          | fail)
        exact hq' (j + 1, ver' + 1, acc' ++ [⟨⟨i, el ps j⟩, (applyM (el s i) w (el ps j)).1⟩]) _ ⟨by dsimp only; omega, by simp; omega, by simpa using hc'⟩ (by dsimp only; omega) (by simp)
      · simp at h3
        have e : moveI (el s i) w i (el ps j) = [] := by simp [moveI, h3]
        rw [e] at hc'
        try simp 
        repeat' (first
          | ((with_reducible refine PreK.intro ?_ ?_); (next => (first | omega | (intros; first | omega | (refine ⟨by omega, ?_⟩; repeat (first | assumption | constructor)) | assumption))); intro _; try simp )
          | fail)
        exact hq' (j + 1, ver', acc') _ ⟨by dsimp only; omega, by dsimp only; omega, by simpa using hc'⟩ (by dsimp only; omega) (by simp)
    · simp at h2
      rw [List.drop_eq_nil_of_le (by omega), movesP] at hc'
      try simp 
      apply he'
      try simp 
      repeat' (first
        | ((with_reducible refine PreK.intro ?_ ?_); (next => (first | omega | (intros; first | omega | (refine ⟨by omega, ?_⟩; repeat (first | assumption | constructor)) | assumption))); intro _; try simp )
        | fail)
      exact hq (i + 1, ver', acc') _ ⟨by dsimp only; omega, by dsimp only; omega, by simpa using hc'⟩ (by dsimp only; omega) (by simp)
  · simp at h1
    rw [List.drop_eq_nil_of_le (by omega)] at hc
    simp [movesF] at hc
    try simp 
    apply he
    simp [hc]
@[simp] def wordsV (l : List (List Int)) : AV := .seq 1 (l.map ints) false
theorem rsteps_c (s : List Rule) (w : List Int) (h : Sys.small s) (hs : s.length ≤ 6) (hw : w.length ≤ 8) :
    CallP Tryz.prog 150 [rulesV s, ints w] (.tup [stepsV ((movesM s w).map (·.step)), wordsV ((movesM s w).map (·.word))]) := by
  refine C150 (by simp) ?_
  generalize hR : movesM s w = R
  unfold movesM at hR
  have hw1 : w.length ≤ 1000 := by omega
  simp [A150]
  refine LoopK.by (ι := Nat × Nat × Nat × List Move) (fun i => ⟨[(8, iv i.1), (0, rulesV s), (1, ints w), (6, .sl 6 i.2.1 0 i.2.2.2.length), (7, .sl 7 i.2.2.1 0 i.2.2.2.length)], [(6, some ⟨2, i.2.2.2.map (fun x => stepV x.step), i.2.1, false⟩), (7, some ⟨1, i.2.2.2.map (fun x => ints x.word), i.2.2.1, false⟩)]⟩) (fun i => s.length - i.1)
    (fun i => i.1 ≤ s.length ∧ i.2.2.2.length ≤ 10 * i.1 ∧ i.2.2.2 ++ movesF w i.1 (s.drop i.1) = R) (0, 1, 1, []) (by simpa using hR) (by simp) ?_
  intro ⟨i, v1, v2, acc⟩ Q' ⟨hi, ha, hc⟩ hq he hr
  dsimp only at hi ha hc
  try simp 
  refine CondK.intro (fun h1 => ?_) (fun h1 => ?_)
  · simp at h1
    have hsm := h.el h1
    rw [drop_cons s i h1, movesF] at hc
    simp [h1]
    refine LoopK.by (ι := Nat × Nat × Nat × List Move) (fun j => ⟨[(9, iv j.1), (8, iv i), (0, rulesV s), (1, ints w), (6, .sl 6 j.2.1 0 j.2.2.2.length), (7, .sl 7 j.2.2.1 0 j.2.2.2.length)], [(6, some ⟨2, j.2.2.2.map (fun x => stepV x.step), j.2.1, false⟩), (7, some ⟨1, j.2.2.2.map (fun x => ints x.word), j.2.2.1, false⟩)]⟩) (fun j => w.length + 1 - j.1)
      (fun j => j.1 ≤ w.length + 1 ∧ j.2.2.2.length ≤ 10 * i + j.1 ∧ j.2.2.2 ++ (movesR (el s i) w i j.1 (w.length + 1 - j.1) ++ movesF w (i + 1) (s.drop (i + 1))) = R) (0, v1, v2, acc) (by simp; exact ⟨ha, hc⟩) (by simp) ?_
    intro ⟨j, w1, w2, acc'⟩ Q'' ⟨hj, ha', hc'⟩ hq' he' hr'
    dsimp only at hj ha' hc'
    try simp 
    refine CondK.intro (fun h2 => ?_) (fun h2 => ?_)
    · simp at h2
      rw [show w.length + 1 - j = (w.length + 1 - (j + 1)) + 1 by omega, movesR] at hc'
      simp [h1]
      try simp 
      repeat' (first
        | (refine CallX.pure (rApply_c (el s i) w j hsm hw1) (by simp) (by simp) ?_; try simp )
        | (refine CallK.intro (rApply_c (el s i) w j hsm hw1) (by simp) (by simp) ?_; try simp )
        | (refine CallG.intro (fun _ => rApply_c (el s i) w j hsm hw1) (by simp) (by simp) ?_; try simp )
        | ((with_reducible refine PreK.intro ?_ ?_); (next => (first | omega | (intros; first | omega | (refine ⟨by omega, ?_⟩; repeat (first | assumption | constructor)) | assumption))); intro _; try simp )
        | fail)
      refine CondK.intro (fun h3 => ?_) (fun h3 => ?_)
      · simp at h3
        have e : moveAt (el s i) w i j = [⟨⟨i, j⟩, (applyM (el s i) w j).1⟩] := by simp [moveAt, h3]
        rw [e] at hc'
        try simp 
        repeat' (first
          | ((with_reducible refine PreK.intro ?_ ?_); (next => (first | omega | (intros; first | omega | (refine ⟨by omega, ?_⟩; repeat (first | assumption | constructor)) | assumption))); intro _; try simp )
          | fail)
        exact hq' (j + 1, w1 + 1, w2 + 1, acc' ++ [⟨⟨i, j⟩, (applyM (el s i) w j).1⟩]) _ ⟨by dsimp only; omega, by simp; omega, by simpa using hc'⟩ (by dsimp only; omega) (by simp)
      · simp at h3
        have e : moveAt (el s i) w i j = [] := by simp [moveAt, h3]
        rw [e] at hc'
        try simp 
        repeat' (first
          | ((with_reducible refine PreK.intro ?_ ?_); (next => (first | omega | (intros; first | omega | (refine ⟨by omega, ?_⟩; repeat (first | assumption | constructor)) | assumption))); intro _; try simp )
          | fail)
        exact hq' (j + 1, w1, w2, acc') _ ⟨by dsimp only; omega, by dsimp only; omega, by simpa using hc'⟩ (by dsimp only; omega) (by simp)
    · simp at h2
      rw [show w.length + 1 - j = 0 by omega, movesR] at hc'
      try simp 
      apply he'
      try simp 
      repeat' (first
        | ((with_reducible refine PreK.intro ?_ ?_); (next => (first | omega | (intros; first | omega | (refine ⟨by omega, ?_⟩; repeat (first | assumption | constructor)) | assumption))); intro _; try simp )
        | fail)
      exact hq (i + 1, w1, w2, acc') _ ⟨by dsimp only; omega, by dsimp only; omega, by simpa using hc'⟩ (by dsimp only; omega) (by simp)
  · simp at h1
    rw [List.drop_eq_nil_of_le (by omega)] at hc
    simp [movesF] at hc
    try simp 
    apply he
    simp [hc]
end Go.Proofs.YtkhddecnllcaiaaGreat
end

section
/- Contracts: Steps, and which rule is special. -/
namespace Go.Proofs.YtkhddecnllcaiaaGreat
open Go.Abs Go
set_option maxRecDepth 20000
set_option maxHeartbeats 2000000
attribute [local irreducible] PreK CondK CallK CallG CallX LoopK
attribute [local simp] avsEq avEq akind teq vkind vEq

theorem swErr_zero {s : List Rule} {w : List Int} (h : swErr s w = 0) : sysErr s = 0 ∧ wordErr w = 0 := by
  unfold swErr at h
  by_cases h1 : sysErr s = 0
  · simp [h1] at h; exact ⟨h1, h⟩
  · simp [h1] at h
theorem movesR_len (r : Rule) (w : List Int) (k : Nat) : ∀ (n i : Nat), (movesR r w k i n).length ≤ n
  | 0, i => by simp [movesR]
  | n + 1, i => by
    have h1 := movesR_len r w k n (i + 1)
    have h2 := moveI_len r w k i
    have e : moveAt r w k i = moveI r w k i := rfl
    rw [movesR, e]
    simp; omega
theorem movesF_len (w : List Int) : ∀ (s : List Rule) (k : Nat), (movesF w k s).length ≤ s.length * (w.length + 1)
  | [], k => by simp [movesF]
  | r :: s, k => by
    have h1 := movesF_len w s (k + 1)
    have h2 := movesR_len r w k (w.length + 1) 0
    rw [movesF]
    simp only [List.length_append, List.length_cons, Nat.add_mul, Nat.one_mul]
    omega
theorem movesM_len {s : List Rule} {w : List Int} (hs : sysErr s = 0) (hw : wordErr w = 0) : (movesM s w).length ≤ 54 := by
  have h1 := (sysErr_zero hs).1
  have h2 := (wordErr_zero hw).1
  have h3 := movesF_len w s 0
  have h4 : s.length * (w.length + 1) ≤ 6 * 9 := Nat.mul_le_mul h1 (by omega)
  unfold movesM; omega
def andL (a b : List Int) : List Bool := [mayS a (-1) && mayS b (-1), mayS a 0 && mayS b 0, mayS a 1 && mayS b 1, mayS a 2 && mayS b 2, mayS a 3 && mayS b 3, mayS a 4 && mayS b 4, mayS a 5 && mayS b 5]
@[simp] theorem andL_length (a b : List Int) : (andL a b).length = 7 := rfl
@[simp] theorem sideL_length (a : List Int) : (sideL a).length = 7 := rfl
theorem big_of {n : Nat} (h : n ≤ 1000) : n ≤ big := by simp only [big]; omega
end Go.Proofs.YtkhddecnllcaiaaGreat
end

section
/- Contracts: candidates and grounds. -/
namespace Go.Proofs.YtkhddecnllcaiaaGreat
open Go.Abs Go
set_option maxRecDepth 20000
set_option maxHeartbeats 2000000
attribute [local irreducible] PreK CondK CallK CallG CallX LoopK
attribute [local simp] avsEq avEq akind teq vkind vEq

/-- A step with its rule. -/
structure Cand where
  step : Step
  rule : Rule
@[simp] def candV (c : Cand) : AV := .agg [iv c.step.rule, iv c.step.place, iv c.rule.frm, ints c.rule.to, ints c.rule.left, ints c.rule.right]
def Cand.small (c : Cand) : Prop := c.rule.small ∧ 0 ≤ c.step.place ∧ c.step.place ≤ 1000
theorem applyM_len (r : Rule) (w : List Int) (p : Int) : (applyM r w p).1.length ≤ 8 := by
  unfold applyM
  split
  · simp
  · split
    · simp
    · split
      · simp
      · rename_i h; simpa using h
end Go.Proofs.YtkhddecnllcaiaaGreat
end

section
/- Contracts: grounds, part 2. -/
namespace Go.Proofs.YtkhddecnllcaiaaGreat
open Go.Abs Go
set_option maxRecDepth 20000
set_option maxHeartbeats 2000000
attribute [local irreducible] PreK CondK CallK CallG CallX LoopK
attribute [local simp] avsEq avEq akind teq vkind vEq T_187

end Go.Proofs.YtkhddecnllcaiaaGreat
end

section
/- Contracts: who wins. -/
namespace Go.Proofs.YtkhddecnllcaiaaGreat
open Go.Abs Go
set_option maxRecDepth 20000
set_option maxHeartbeats 2000000
attribute [local irreducible] PreK CondK CallK CallG CallX LoopK
attribute [local simp] avsEq avEq akind teq vkind vEq

/-- A step with its rule in a system, as the program holds it. -/
def candS (s : List Rule) (x : Step) : AV := candV ⟨x, el s x.rule.toNat⟩
theorem candS_eq (s : List Rule) (x : Step) : candS s x = .agg [iv x.rule, iv x.place, iv (el s x.rule.toNat).frm, ints (el s x.rule.toNat).to, ints (el s x.rule.toNat).left, ints (el s x.rule.toNat).right] := rfl
@[simp] theorem nth_cand (s : List Rule) (l : List Step) (k : Nat) (h : k < l.length) : nth (l.map (candS s)) k = candV ⟨el l k, el s (el l k).rule.toNat⟩ := nth_map (candS s) l k h
@[simp] def candsV (s : List Rule) (l : List Step) : AV := .seq 6 (l.map (candS s)) false
def stepOK (s : List Rule) (x : Step) : Prop := 0 ≤ x.rule ∧ x.rule < s.length ∧ 0 ≤ x.place ∧ x.place ≤ 8
theorem stepOK.small {s : List Rule} {x : Step} (h : stepOK s x) (hs : Sys.small s) : Cand.small ⟨x, el s x.rule.toNat⟩ := ⟨hs.el (by have := h.1; have := h.2.1; omega), h.2.2.1, by have := h.2.2.2; simp only; omega⟩
end Go.Proofs.YtkhddecnllcaiaaGreat
end

section
/- Contracts: the champion and the choice. -/
namespace Go.Proofs.YtkhddecnllcaiaaGreat
open Go.Abs Go
set_option maxRecDepth 20000
set_option maxHeartbeats 2000000
attribute [local irreducible] PreK CondK CallK CallG CallX LoopK
attribute [local simp] avsEq avEq akind teq vkind vEq

/-- The first place at which p holds, or -1. -/
def idxG {α : Type} (p : α → Bool) : Nat → List α → Int
  | _, [] => -1
  | k, x :: r => if p x then k else idxG p (k + 1) r
theorem idxG_any {α : Type} (p : α → Bool) : ∀ (l : List α) (k : Nat), decide (0 ≤ idxG p k l) = l.any p
  | [], k => by simp [idxG]
  | x :: r, k => by
    by_cases h : p x = true
    · simp [idxG, h]
    · simp [idxG, h, idxG_any p r (k + 1)]
end Go.Proofs.YtkhddecnllcaiaaGreat
end

section
/- Contracts: the champion, the choice, the derivation. -/
namespace Go.Proofs.YtkhddecnllcaiaaGreat
open Go.Abs Go
set_option maxRecDepth 20000
set_option maxHeartbeats 2000000
attribute [local irreducible] PreK CondK CallK CallG CallX LoopK
attribute [local simp] avsEq avEq akind teq vkind vEq candS_eq

@[simp] def candZ : AV := .agg [iv 0, iv 0, iv 0, .seq 1 [] false, .seq 1 [] false, .seq 1 [] false]
@[simp] def candZ0 : AV := .agg [iv 0, iv 0, iv 0, .seq 1 [] true, .seq 1 [] true, .seq 1 [] true]
end Go.Proofs.YtkhddecnllcaiaaGreat
end

section
/- Contracts: the choice and the derivation. -/
namespace Go.Proofs.YtkhddecnllcaiaaGreat
open Go.Abs Go
set_option maxRecDepth 20000
set_option maxHeartbeats 2000000
attribute [local irreducible] PreK CondK CallK CallG CallX LoopK
attribute [local simp] avsEq avEq akind teq vkind vEq candS_eq

end Go.Proofs.YtkhddecnllcaiaaGreat
end

section
/- Contracts: the derivation of the program. -/
namespace Go.Proofs.YtkhddecnllcaiaaGreat
open Go.Abs Go
set_option maxRecDepth 20000
set_option maxHeartbeats 2000000
attribute [local irreducible] PreK CondK CallK CallG CallX LoopK
attribute [local simp] avsEq avEq akind teq vkind vEq

end Go.Proofs.YtkhddecnllcaiaaGreat
end

section
/- Functions of the cut as the value layer reads them. (written by gen.py) -/
set_option maxRecDepth 20000
namespace Go.Proofs.YtkhddecnllcaiaaGreat
open Go.Abs Go

def A34 : ACode :=
  (.seq (.reg [] [⟨some 2, (.assign (.const (.slice none 0 0))), 23, none⟩,
      ⟨some 3, (.assign (.const (.bool false))), 4, none⟩,
      ⟨some 4, (.assign (.const (.int .i64 0))), 28, none⟩])
    (.seq (.seq (.reg [] [⟨some 12, (.move (.tmp 0)), 22, none⟩,
      ⟨some 13, (.call ⟨(.value (.func 72)), #[(.tmp 12)], #[22]⟩), 28, none⟩,
      ⟨some 5, (.assign (.tmp 13)), 28, none⟩])
    (.seq (.reg [] [⟨some 14, (.move (.tmp 5)), 28, none⟩,
      ⟨some 15, (.binOp .neq 28 (.tmp 14) (.const (.int .i64 0)) 28), 4, none⟩])
    (.cond (.tmp 15)
    (.seq (.reg [] [⟨some 16, (.move (.tmp 5)), 28, none⟩,
      ⟨some 2, (.assign (.const (.slice none 0 0))), 23, none⟩,
      ⟨some 3, (.assign (.const (.bool false))), 4, none⟩,
      ⟨some 4, (.assign (.tmp 16)), 28, none⟩])
    .ret)
    .skip)))
    (.seq (.reg [] [⟨some 17, (.makeSlice 23 (.const (.int .i64 6)) (.const (.int .i64 6))), 23, none⟩,
      ⟨some 6, (.assign (.tmp 17)), 23, none⟩])
    (.seq (.seq (.reg [] [⟨some 18, (.move (.const (.int .i64 0))), 3, none⟩])
    (.block 0 (.loop (.seq (.reg [] [⟨some 19, (.binOp .lss 3 (.tmp 18) (.const (.int .i64 7)) 3), 4, none⟩])
    (.seq (.cond (.tmp 19)
    .skip
    (.exit 0))
    (.seq (.block 1 (.seq (.reg [] [⟨some 20, (.move (.tmp 18)), 3, none⟩,
      ⟨some 7, (.assign (.tmp 20)), 3, none⟩])
    (.seq (.reg [] [⟨some 8, (.assign (.const (.bool false))), 4, none⟩])
    (.seq (.seq (.reg [] [⟨some 21, (.move (.tmp 0)), 22, none⟩,
      ⟨some 22, (.call ⟨(.builtin .len), #[(.tmp 21)], #[22]⟩), 3, none⟩,
      ⟨some 23, (.move (.const (.int .i64 0))), 3, none⟩])
    (.block 2 (.loop (.seq (.reg [] [⟨some 24, (.binOp .lss 3 (.tmp 23) (.tmp 22) 3), 0, none⟩])
    (.seq (.cond (.tmp 24)
    .skip
    (.exit 2))
    (.seq (.block 3 (.seq (.reg [] [⟨some 25, (.indexAddr 22 (.tmp 21) (.tmp 23)), 0, none⟩,
      ⟨some 26, (.load 46 (.tmp 25)), 46, none⟩,
      ⟨some 10, (.alloc 46), 0, none⟩,
      ⟨none, (.store 46 (.tmp 10) (.tmp 26)), 0, none⟩])
    (.seq (.seq (.reg [] [⟨some 27, (.fieldAddr 46 (.tmp 10) 0), 0, none⟩,
      ⟨some 28, (.load 3 (.tmp 27)), 3, none⟩,
      ⟨some 29, (.binOp .lss 3 (.tmp 28) (.const (.int .i64 0)) 3), 4, none⟩])
    (.cond (.tmp 29)
    (.seq (.reg [] [⟨some 2, (.assign (.const (.slice none 0 0))), 23, none⟩,
      ⟨some 3, (.assign (.const (.bool false))), 4, none⟩,
      ⟨some 4, (.assign (.const (.int .i64 0))), 28, none⟩])
    .ret)
    .skip))
    (.seq (.reg [] [⟨some 30, (.move (.tmp 6)), 23, none⟩,
      ⟨some 31, (.fieldAddr 46 (.tmp 10) 1), 0, none⟩,
      ⟨some 32, (.load 23 (.tmp 31)), 23, none⟩,
      ⟨some 33, (.call ⟨(.value (.func 73)), #[(.tmp 30), (.tmp 32)], #[23, 23]⟩), 3, none⟩,
      ⟨some 34, (.binOp .add 3 (.tmp 33) (.const (.int .i64 1)) 3), 3, none⟩,
      ⟨some 11, (.assign (.tmp 34)), 3, none⟩])
    (.seq (.reg [] [⟨some 35, (.move (.tmp 6)), 23, none⟩,
      ⟨some 36, (.fieldAddr 46 (.tmp 10) 0), 0, none⟩,
      ⟨some 37, (.load 3 (.tmp 36)), 3, none⟩,
      ⟨some 38, (.indexAddr 23 (.tmp 35) (.tmp 37)), 0, none⟩,
      ⟨some 39, (.load 3 (.tmp 38)), 3, none⟩,
      ⟨some 40, (.move (.tmp 11)), 3, none⟩,
      ⟨some 41, (.binOp .lss 3 (.tmp 39) (.tmp 40) 3), 4, none⟩])
    (.cond (.tmp 41)
    (.reg [] [⟨some 42, (.move (.tmp 6)), 23, none⟩,
      ⟨some 43, (.fieldAddr 46 (.tmp 10) 0), 0, none⟩,
      ⟨some 44, (.load 3 (.tmp 43)), 3, none⟩,
      ⟨some 45, (.move (.tmp 11)), 3, none⟩,
      ⟨some 46, (.indexAddr 23 (.tmp 42) (.tmp 44)), 0, none⟩,
      ⟨none, (.store 3 (.tmp 46) (.tmp 45)), 0, none⟩,
      ⟨some 8, (.assign (.const (.bool true))), 4, none⟩])
    .skip))))))
    (.reg [] [⟨some 47, (.binOp .add 3 (.tmp 23) (.const (.int .i64 1)) 3), 3, none⟩,
      ⟨some 23, (.move (.tmp 47)), 3, none⟩])))))))
    (.seq (.seq (.reg [] [⟨some 48, (.move (.tmp 8)), 4, none⟩,
      ⟨some 49, (.unOp .not 4 (.tmp 48)), 4, none⟩])
    (.cond (.tmp 49)
    (.exit 0)
    .skip))
    (.seq (.reg [] [⟨some 50, (.move (.tmp 7)), 3, none⟩,
      ⟨some 51, (.binOp .eql 3 (.tmp 50) (.const (.int .i64 6)) 3), 4, none⟩])
    (.cond (.tmp 51)
    (.seq (.reg [] [⟨some 2, (.assign (.const (.slice none 0 0))), 23, none⟩,
      ⟨some 3, (.assign (.const (.bool false))), 4, none⟩,
      ⟨some 4, (.assign (.const (.int .i64 0))), 28, none⟩])
    .ret)
    .skip)))))))
    (.reg [] [⟨some 52, (.binOp .add 3 (.tmp 18) (.const (.int .i64 1)) 3), 3, none⟩,
      ⟨some 18, (.move (.tmp 52)), 3, none⟩])))))))
    (.seq (.reg [] [⟨some 53, (.move (.tmp 6)), 23, none⟩,
      ⟨some 2, (.assign (.tmp 53)), 23, none⟩,
      ⟨some 3, (.assign (.const (.bool true))), 4, none⟩,
      ⟨some 4, (.assign (.const (.int .i64 0))), 28, none⟩])
    .ret)))))
theorem C34 {args : List AV} {r : AV} (hn : args.length ≤ 54) (h : vc Tryz.prog T [] A34 (Fin T [(.tmp 2), (.tmp 3), (.tmp 4)] r) ⟨envOf 0 args, []⟩) : CallP Tryz.prog 34 args r :=
  callP_of tok mixed Tryz.func34 (by kernel_rfl) (by kernel_rfl) (by kernel_rfl : Tryz.f34.ntmps = 54) (by kernel_rfl : Tryz.f34.body.bind (strip 54 (fun _ => [])) = some A34) hn h
def A73 : ACode :=
  (.seq (.reg [] [⟨some 4, (.assign (.const (.int .i64 0))), 3, none⟩])
    (.seq (.reg [] [⟨some 5, (.assign (.const (.int .i64 0))), 3, none⟩])
    (.seq (.seq (.reg [] [⟨some 8, (.move (.tmp 1)), 23, none⟩,
      ⟨some 9, (.call ⟨(.builtin .len), #[(.tmp 8)], #[23]⟩), 3, none⟩,
      ⟨some 10, (.move (.const (.int .i64 0))), 3, none⟩])
    (.block 0 (.loop (.seq (.reg [] [⟨some 11, (.binOp .lss 3 (.tmp 10) (.tmp 9) 3), 0, none⟩])
    (.seq (.cond (.tmp 11)
    .skip
    (.exit 0))
    (.seq (.block 1 (.seq (.reg [] [⟨some 12, (.indexAddr 23 (.tmp 8) (.tmp 10)), 0, none⟩,
      ⟨some 13, (.load 3 (.tmp 12)), 3, none⟩,
      ⟨some 7, (.assign (.tmp 13)), 3, none⟩])
    (.reg [] [⟨some 14, (.move (.tmp 5)), 3, none⟩,
      ⟨some 15, (.move (.tmp 0)), 23, none⟩,
      ⟨some 16, (.move (.tmp 7)), 3, none⟩,
      ⟨some 17, (.indexAddr 23 (.tmp 15) (.tmp 16)), 0, none⟩,
      ⟨some 18, (.load 3 (.tmp 17)), 3, none⟩,
      ⟨some 19, (.binOp .add 3 (.tmp 14) (.tmp 18) 3), 3, none⟩,
      ⟨some 5, (.assign (.tmp 19)), 3, none⟩])))
    (.reg [] [⟨some 20, (.binOp .add 3 (.tmp 10) (.const (.int .i64 1)) 3), 3, none⟩,
      ⟨some 10, (.move (.tmp 20)), 3, none⟩])))))))
    (.seq (.reg [] [⟨some 21, (.move (.tmp 5)), 3, none⟩,
      ⟨some 4, (.assign (.tmp 21)), 3, none⟩])
    .ret))))
theorem C73 {args : List AV} {r : AV} (hn : args.length ≤ 22) (h : vc Tryz.prog T [] A73 (Fin T [(.tmp 4)] r) ⟨envOf 0 args, []⟩) : CallP Tryz.prog 73 args r :=
  callP_of tok mixed Tryz.func73 (by kernel_rfl) (by kernel_rfl) (by kernel_rfl : Tryz.f73.ntmps = 22) (by kernel_rfl : Tryz.f73.body.bind (strip 22 (fun _ => [])) = some A73) hn h
end Go.Proofs.YtkhddecnllcaiaaGreat
end

section
/- Contracts: order.Derive and what it checks. -/
namespace Go.Proofs.YtkhddecnllcaiaaGreat
open Go.Abs Go
set_option maxRecDepth 20000
set_option maxHeartbeats 2000000
attribute [local irreducible] PreK CondK CallK CallG CallX LoopK
attribute [local simp] avsEq avEq akind teq vkind vEq

end Go.Proofs.YtkhddecnllcaiaaGreat
end

section
/- Contracts: the reference's grounds. -/
namespace Go.Proofs.YtkhddecnllcaiaaGreat
open Go.Abs Go
set_option maxRecDepth 20000
set_option maxHeartbeats 2000000
attribute [local irreducible] PreK CondK CallK CallG CallX LoopK
attribute [local simp] avsEq avEq akind teq vkind vEq

end Go.Proofs.YtkhddecnllcaiaaGreat
end

section
/- Contracts: the reference's winner and derivation. -/
namespace Go.Proofs.YtkhddecnllcaiaaGreat
open Go.Abs Go
set_option maxRecDepth 20000
set_option maxHeartbeats 2000000
attribute [local irreducible] PreK CondK CallK CallG CallX LoopK
attribute [local simp] avsEq avEq akind teq vkind vEq

end Go.Proofs.YtkhddecnllcaiaaGreat
end

section
/- Contracts: the reference's derivation; comparisons of choices. -/
namespace Go.Proofs.YtkhddecnllcaiaaGreat
open Go.Abs Go
set_option maxRecDepth 20000
set_option maxHeartbeats 2000000
attribute [local irreducible] PreK CondK CallK CallG CallX LoopK
attribute [local simp] avsEq avEq akind teq vkind vEq

end Go.Proofs.YtkhddecnllcaiaaGreat
end

section
/- Contracts: the checks of the statements on grounds; the statement OrderDerives. -/
namespace Go.Proofs.YtkhddecnllcaiaaGreat
open Go.Abs Go
set_option maxRecDepth 20000
set_option maxHeartbeats 2000000
attribute [local irreducible] PreK CondK CallK CallG CallX LoopK
attribute [local simp] avsEq avEq akind teq vkind vEq

/-- A system, a word and grounds. -/
structure Case where
  rules : List Rule
  word : List Int
  grounds : List Int
@[simp] def caseV (x : Case) : AV := .agg [rulesV x.rules, ints x.word, ints x.grounds]
end Go.Proofs.YtkhddecnllcaiaaGreat
end

section
/- The statement OrderDerives as a contract. -/
namespace Go.Proofs.YtkhddecnllcaiaaGreat
open Go.Abs Go
attribute [local simp] avsEq avEq akind teq vkind vEq

end Go.Proofs.YtkhddecnllcaiaaGreat
end

section
/- Contracts: Winner and IsClear, and the statement OrderWinners. -/
namespace Go.Proofs.YtkhddecnllcaiaaGreat
open Go.Abs Go
attribute [local simp] avsEq avEq akind teq vkind vEq candS_eq

end Go.Proofs.YtkhddecnllcaiaaGreat
end

section
/- Contracts: two steps; Lasts, Decide, Beats. -/
namespace Go.Proofs.YtkhddecnllcaiaaGreat
open Go.Abs Go
attribute [local simp] avsEq avEq akind teq vkind vEq candS_eq

theorem weakL_map {α : Type} (f : α → AV) (h : ∀ x, weak (f x) = f x) : ∀ l : List α, weakL (l.map f) = l.map f
  | [] => rfl
  | x :: l => by simp only [List.map_cons, weakL, h x, weakL_map f h l]
@[simp] theorem weakL_iv (l : List Int) : weakL (l.map iv) = l.map iv := weakL_map iv (fun _ => rfl) l
theorem weak_rule (r : Rule) : weak (ruleV r) = ruleV r := by simp [weak, weakL]
@[simp] theorem weakL_rule (l : List Rule) : weakL (l.map ruleV) = l.map ruleV := weakL_map ruleV weak_rule l
end Go.Proofs.YtkhddecnllcaiaaGreat
end

section
/- Contracts: Lasts, Decide, Beats, and their statements. -/
namespace Go.Proofs.YtkhddecnllcaiaaGreat
open Go.Abs Go
attribute [local simp] avsEq avEq akind teq vkind vEq candS_eq

/-- Two steps. -/
@[simp] def twoV (p : Step × Step) : AV := .agg [iv p.1.rule, iv p.1.place, iv p.2.rule, iv p.2.place]
end Go.Proofs.YtkhddecnllcaiaaGreat
end

section
/- Contracts: the statement OrderBeats; CheckDerivation, and the statement OrderChecks. -/
namespace Go.Proofs.YtkhddecnllcaiaaGreat
open Go.Abs Go
attribute [local simp] avsEq avEq akind teq vkind vEq candS_eq

end Go.Proofs.YtkhddecnllcaiaaGreat
end

section
/- Plain: words in ascending order; a list into which words are put in order; words by a queue and by going deep are the same. -/
namespace Go.Proofs.YtkhddecnllcaiaaGreat
open Go.Abs Go

theorem el_mem_of {α : Type} [Inhabited α] (o : List α) (k : Nat) (h : k < o.length) : el o k ∈ o := by rw [el_eq o k h]; exact List.getElem_mem h
/-- Whether a word comes before another one. -/
def bef : List Int → List Int → Bool
  | _, [] => false
  | [], _ :: _ => true
  | x :: a, y :: b => if x = y then bef a b else decide (x < y)
theorem bef_irr : ∀ a : List Int, bef a a = false
  | [] => rfl
  | x :: a => by simp [bef, bef_irr a]
theorem bef_trans : ∀ {a b c : List Int}, bef a b = true → bef b c = true → bef a c = true
  | [], [], c, h, _ => by simp [bef] at h
  | _ :: _, [], c, h, _ => by simp [bef] at h
  | a, _ :: _, [], _, h => by simp [bef] at h
  | [], _ :: _, _ :: _, _, _ => rfl
  | x :: a, y :: b, z :: c, h1, h2 => by
    simp only [bef] at h1 h2 ⊢
    by_cases e1 : x = y
    · subst e1
      by_cases e2 : x = z
      · subst e2
        simp only [if_true] at h1 h2 ⊢
        exact bef_trans h1 h2
      · rw [if_neg e2] at h2 ⊢
        exact h2
    · rw [if_neg e1] at h1
      simp only [decide_eq_true_eq] at h1
      by_cases e2 : y = z
      · subst e2
        rw [if_neg e1]
        simpa using h1
      · rw [if_neg e2] at h2
        simp only [decide_eq_true_eq] at h2
        rw [if_neg (by omega)]
        simp only [decide_eq_true_eq]
        omega
theorem bef_total : ∀ {a b : List Int}, a ≠ b → bef a b = true ∨ bef b a = true
  | [], [], h => absurd rfl h
  | [], _ :: _, _ => .inl rfl
  | _ :: _, [], _ => .inr rfl
  | x :: a, y :: b, h => by
    simp only [bef]
    by_cases e : x = y
    · subst e
      simp only [if_true]
      exact bef_total fun e => h (by rw [e])
    · have e' : ¬ y = x := fun q => e q.symm
      rw [if_neg e, if_neg e']
      simp only [decide_eq_true_eq]
      omega
theorem bef_asymm {a b : List Int} (h : bef a b = true) : bef b a = false := by
  cases h2 : bef b a with
  | false => rfl
  | true =>
    have := bef_trans h h2
    rw [bef_irr] at this
    cases this
def sortedW (l : List (List Int)) : Prop := l.Pairwise fun a b => bef a b = true
/-- Lists in order with the same members are equal. -/
theorem sorted_eq : ∀ {l m : List (List Int)}, sortedW l → sortedW m → (∀ x, x ∈ l ↔ x ∈ m) → l = m
  | [], [], _, _, _ => rfl
  | [], y :: m, _, _, h => by have := (h y).2 (by simp); cases this
  | x :: l, [], _, _, h => by have := (h x).1 (by simp); cases this
  | x :: l, y :: m, hl, hm, h => by
    unfold sortedW at hl hm
    rw [List.pairwise_cons] at hl hm
    have hxy : x = y := by
      rcases List.mem_cons.1 ((h x).1 (by simp)) with e | hx
      · exact e
      · rcases List.mem_cons.1 ((h y).2 (by simp)) with e | hy
        · exact e.symm
        · have h1 := hl.1 y hy
          have h2 := hm.1 x hx
          rw [bef_asymm h1] at h2
          cases h2
    subst hxy
    rw [sorted_eq hl.2 hm.2 fun z => ?_]
    have hz := h z
    simp only [List.mem_cons] at hz
    constructor
    · intro hzl
      rcases hz.1 (.inr hzl) with e | e
      · subst e
        have := hl.1 z hzl
        rw [bef_irr] at this; cases this
      · exact e
    · intro hzm
      rcases hz.2 (.inr hzm) with e | e
      · subst e
        have := hm.1 z hzm
        rw [bef_irr] at this; cases this
      · exact e

end Go.Proofs.YtkhddecnllcaiaaGreat
end

section
/- Plain: a search in the order of distance; what it finds does not hang on the order of the steps. -/
namespace Go.Proofs.YtkhddecnllcaiaaGreat
open Go.Abs Go

abbrev Word := List Int
/-- A word and how many steps it is away. -/
abbrev WN := Word × Nat
/-- The words of a list that are not there yet, put at the end; none if there would be more than 300. -/
def addF (d : Nat) : List WN → List Word → Option (List WN)
  | ws, [] => some ws
  | ws, v :: l => if v ∈ ws.map (·.1) then addF d ws l else if ws.length = 300 then none else addF d (ws ++ [(v, d)]) l
def closeF (nx : Word → List Word) : Nat → Nat → List WN → Option (List WN)
  | 0, _, ws => some ws
  | n + 1, i, ws => if i < ws.length then match addF ((el ws i).2 + 1) ws (nx (el ws i).1) with
      | none => none
      | some ws' => closeF nx n (i + 1) ws'
    else some ws
/-- What is reached by so many steps. -/
inductive ReachN (nx : Word → List Word) (w : Word) : Nat → Word → Prop
  | zero : ReachN nx w 0 w
  | succ {n : Nat} {v x : Word} (h : ReachN nx w n v) (hx : x ∈ nx v) : ReachN nx w (n + 1) x
theorem ReachN.congr {nx nx' : Word → List Word} (he : ∀ v x, x ∈ nx v ↔ x ∈ nx' v) {w x : Word} {n : Nat} (h : ReachN nx w n x) : ReachN nx' w n x := by
  induction h with
  | zero => exact .zero
  | succ h hx ih => exact .succ ih ((he _ _).1 hx)
theorem ReachN.trans {nx : Word → List Word} {u v x : Word} {n m : Nat} (h : ReachN nx u n v) (k : ReachN nx v m x) : ReachN nx u (n + m) x := by
  induction k with
  | zero => exact h
  | succ k hx ih => exact .succ ih hx

theorem addF_some {d : Nat} : ∀ {l : List Word} {ws ws' : List WN}, addF d ws l = some ws' → (ws.map (·.1)).Nodup → ws.length ≤ 300 →
    (∃ new, ws' = ws ++ new ∧ ∀ y ∈ new, y.2 = d ∧ y.1 ∈ l) ∧ (ws'.map (·.1)).Nodup ∧ ws'.length ≤ 300 ∧ ∀ x ∈ l, x ∈ ws'.map (·.1)
  | [], ws, ws', h, hn, hl => by
    simp only [addF, Option.some.injEq] at h
    subst h
    exact ⟨⟨[], by simp, by simp⟩, hn, hl, by simp⟩
  | v :: l, ws, ws', h, hn, hl => by
    rw [addF] at h
    split at h
    · rename_i hm
      obtain ⟨⟨new, h1, h2⟩, h3, h4, h5⟩ := addF_some h hn hl
      refine ⟨⟨new, h1, fun y hy => ⟨(h2 y hy).1, by simp [(h2 y hy).2]⟩⟩, h3, h4, fun x hx => ?_⟩
      rcases List.mem_cons.1 hx with rfl | hx
      · rw [h1, List.map_append, List.mem_append]; exact .inl hm
      · exact h5 x hx
    · rename_i hm
      split at h
      · cases h
      · rename_i h300
        have hn' : ((ws ++ [(v, d)]).map (·.1)).Nodup := by
          rw [List.map_append, List.nodup_append]
          refine ⟨hn, by simp, fun a ha b hb => ?_⟩
          simp only [List.map_cons, List.map_nil, List.mem_singleton] at hb
          intro e
          exact hm (by rw [← hb, ← e]; exact ha)
        obtain ⟨⟨new, h1, h2⟩, h3, h4, h5⟩ := addF_some h hn' (by simp; omega)
        refine ⟨⟨(v, d) :: new, by rw [h1]; simp, fun y hy => ?_⟩, h3, h4, fun x hx => ?_⟩
        · rcases List.mem_cons.1 hy with rfl | hy
          · exact ⟨rfl, by simp⟩
          · exact ⟨(h2 y hy).1, by simp [(h2 y hy).2]⟩
        · rcases List.mem_cons.1 hx with rfl | hx
          · rw [h1]; simp
          · exact h5 x hx
theorem addF_none {d : Nat} : ∀ {l : List Word} {ws : List WN}, addF d ws l = none → (ws.map (·.1)).Nodup → ∃ m : List Word, m.Nodup ∧ m.length = 301 ∧ ∀ x ∈ m, x ∈ ws.map (·.1) ∨ x ∈ l
  | [], ws, h, _ => by simp [addF] at h
  | v :: l, ws, h, hn => by
    rw [addF] at h
    split at h
    · obtain ⟨m, h1, h2, h3⟩ := addF_none h hn
      refine ⟨m, h1, h2, fun x hx => ?_⟩
      rcases h3 x hx with e | e
      · exact .inl e
      · exact .inr (by simp [e])
    · rename_i hm
      have hn' : ((ws ++ [(v, d)]).map (·.1)).Nodup := by
        rw [List.map_append, List.nodup_append]
        refine ⟨hn, by simp, fun a ha b hb => ?_⟩
        simp only [List.map_cons, List.map_nil, List.mem_singleton] at hb
        intro e
        exact hm (by rw [← hb, ← e]; exact ha)
      split at h
      · rename_i h300
        refine ⟨(ws ++ [(v, d)]).map (·.1), hn', by simp [h300], fun x hx => ?_⟩
        rw [List.map_append, List.mem_append] at hx
        rcases hx with e | e
        · exact .inl e
        · simp only [List.map_cons, List.map_nil, List.mem_singleton] at e
          exact .inr (by simp [e])
      · obtain ⟨m, h1, h2, h3⟩ := addF_none h hn'
        refine ⟨m, h1, h2, fun x hx => ?_⟩
        rcases h3 x hx with e | e
        · rw [List.map_append, List.mem_append] at e
          rcases e with e | e
          · exact .inl e
          · simp only [List.map_cons, List.map_nil, List.mem_singleton] at e
            exact .inr (by simp [e])
        · exact .inr (by simp [e])

structure Found (nx : Word → List Word) (w : Word) (i : Nat) (ws : List WN) : Prop where
  nodup : (ws.map (·.1)).Nodup
  len : ws.length ≤ 300
  first : ∃ l, ws = (w, 0) :: l
  reach : ∀ y ∈ ws, ReachN nx w y.2 y.1
  mono : ws.Pairwise fun a b => a.2 ≤ b.2
  near : i < ws.length → ∀ y ∈ ws, y.2 ≤ (el ws i).2 + 1
  closed : ∀ y ∈ ws.take i, ∀ x ∈ nx y.1, ∃ z ∈ ws, z.1 = x ∧ z.2 ≤ y.2 + 1
theorem pairwise_el {ws : List WN} (h : ws.Pairwise fun a b => a.2 ≤ b.2) {i j : Nat} (hij : i ≤ j) (hj : j < ws.length) : (el ws i).2 ≤ (el ws j).2 := by
  rw [el_eq _ _ hj, el_eq _ _ (by omega : i < ws.length)]
  by_cases e : i = j
  · subst e; exact Nat.le_refl _
  · exact List.pairwise_iff_getElem.1 h i j (by omega) hj (by omega)
theorem Found.step {nx : Word → List Word} {w : Word} {i : Nat} {ws ws' : List WN} (h : Found nx w i ws) (hi : i < ws.length) (ha : addF ((el ws i).2 + 1) ws (nx (el ws i).1) = some ws') : Found nx w (i + 1) ws' := by
  obtain ⟨⟨new, rfl, h2⟩, h3, h4, h5⟩ := addF_some ha h.nodup h.len
  have hmi := el_mem_of ws i hi
  have hup : ∀ y ∈ ws ++ new, y.2 ≤ (el ws i).2 + 1 := by
    intro y hy
    rcases List.mem_append.1 hy with hy | hy
    · exact h.near hi y hy
    · exact Nat.le_of_eq (h2 y hy).1
  have hmono : (ws ++ new).Pairwise fun a b => a.2 ≤ b.2 := by
    rw [List.pairwise_append]
    refine ⟨h.mono, ?_, fun a ha b hb => ?_⟩
    · rw [List.pairwise_iff_getElem]
      intro a b h6 h7 _
      rw [(h2 _ (List.getElem_mem h6)).1, (h2 _ (List.getElem_mem h7)).1]
      exact Nat.le_refl _
    · rw [(h2 b hb).1]
      exact h.near hi a ha
  refine ⟨h3, h4, ?_, fun y hy => ?_, hmono, fun hl y hy => ?_, fun y hy x hx => ?_⟩
  · obtain ⟨l, rfl⟩ := h.first; exact ⟨l ++ new, rfl⟩
  · rcases List.mem_append.1 hy with hy | hy
    · exact h.reach y hy
    · rw [(h2 y hy).1]
      exact .succ (h.reach _ hmi) (h2 y hy).2
  · have h6 := pairwise_el hmono (i := i) (j := i + 1) (by omega) hl
    have h7 : el (ws ++ new) i = el ws i := by
      unfold el; rw [List.getD_eq_getElem?_getD, List.getD_eq_getElem?_getD, List.getElem?_append_left hi]
    rw [h7] at h6
    have := hup y hy
    omega
  · rw [List.take_append_of_le_length (by omega), take_succ ws i hi, List.mem_append] at hy
    rcases hy with hy | hy
    · obtain ⟨z, hz, h6, h7⟩ := h.closed y hy x hx
      exact ⟨z, List.mem_append.2 (.inl hz), h6, h7⟩
    · simp only [List.mem_singleton] at hy
      subst hy
      have := h5 x hx
      obtain ⟨z, hz, e⟩ := List.mem_map.1 this
      exact ⟨z, hz, e, hup z hz⟩
theorem Found.start (nx : Word → List Word) (w : Word) : Found nx w 0 [(w, 0)] :=
  ⟨by simp, by simp, ⟨[], rfl⟩, fun y hy => by simp only [List.mem_singleton] at hy; subst hy; exact .zero, by simp, fun _ y hy => by simp only [List.mem_singleton] at hy; subst hy; simp, by simp⟩
/-- What a search has found: each word that is reached, once, with its distance. -/
structure Closed (nx : Word → List Word) (w : Word) (ws : List WN) : Prop where
  nodup : (ws.map (·.1)).Nodup
  len : ws.length ≤ 300
  first : ∃ l, ws = (w, 0) :: l
  reach : ∀ y ∈ ws, ReachN nx w y.2 y.1
  all : ∀ n x, ReachN nx w n x → ∃ z ∈ ws, z.1 = x ∧ z.2 ≤ n
theorem Found.end {nx : Word → List Word} {w : Word} {i : Nat} {ws : List WN} (h : Found nx w i ws) (hi : ws.length ≤ i) : Closed nx w ws := by
  refine ⟨h.nodup, h.len, h.first, h.reach, fun n x hr => ?_⟩
  have ht : ws.take i = ws := List.take_of_length_le hi
  have hc := h.closed
  rw [ht] at hc
  induction hr with
  | zero => obtain ⟨l, rfl⟩ := h.first; exact ⟨(w, 0), by simp, rfl, Nat.le_refl _⟩
  | succ hr hx ih =>
    obtain ⟨z, hz, rfl, h1⟩ := ih
    obtain ⟨y, hy, h2, h3⟩ := hc z hz _ hx
    exact ⟨y, hy, h2, by omega⟩
theorem closeF_spec {nx : Word → List Word} {w : Word} : ∀ (n i : Nat) (ws : List WN), n + i = 301 → i ≤ ws.length + 0 → Found nx w i ws →
    match closeF nx n i ws with
    | some ws' => Closed nx w ws'
    | none => ∃ m : List Word, m.Nodup ∧ m.length = 301 ∧ ∀ x ∈ m, ∃ k, ReachN nx w k x
  | 0, i, ws, hn, hi, h => by
    have := h.len
    simp only [closeF]
    omega
  | n + 1, i, ws, hn, hi, h => by
    rw [closeF]
    by_cases hl : i < ws.length
    · rw [if_pos hl]
      cases ha : addF ((el ws i).2 + 1) ws (nx (el ws i).1) with
      | none =>
        dsimp only
        obtain ⟨m, h1, h2, h3⟩ := addF_none ha h.nodup
        refine ⟨m, h1, h2, fun x hx => ?_⟩
        rcases h3 x hx with e | e
        · obtain ⟨y, hy, rfl⟩ := List.mem_map.1 e
          exact ⟨_, h.reach y hy⟩
        · exact ⟨_, .succ (h.reach _ (el_mem_of ws i hl)) e⟩
      | some ws' =>
        dsimp only
        have hs := h.step hl ha
        obtain ⟨⟨new, e, _⟩, _⟩ := addF_some ha h.nodup h.len
        exact closeF_spec n (i + 1) ws' (by omega) (by rw [e]; simp; omega) hs
    · rw [if_neg hl]
      exact h.end (by omega)
def closeM (nx : Word → List Word) (w : Word) : Option (List WN) := closeF nx 301 0 [(w, 0)]
theorem closeM_some {nx : Word → List Word} {w : Word} {ws : List WN} (h : closeM nx w = some ws) : Closed nx w ws := by
  have := closeF_spec (nx := nx) (w := w) 301 0 [(w, 0)] rfl (by simp) (Found.start nx w)
  unfold closeM at h
  rw [h] at this
  exact this
theorem closeM_none {nx : Word → List Word} {w : Word} (h : closeM nx w = none) : ∃ m : List Word, m.Nodup ∧ m.length = 301 ∧ ∀ x ∈ m, ∃ k, ReachN nx w k x := by
  have := closeF_spec (nx := nx) (w := w) 301 0 [(w, 0)] rfl (by simp) (Found.start nx w)
  unfold closeM at h
  rw [h] at this
  exact this
theorem nodup_le' {α : Type} [DecidableEq α] : ∀ {l m : List α}, l.Nodup → (∀ x ∈ l, x ∈ m) → l.length ≤ m.length
  | [], m, _, _ => by simp
  | x :: l, m, h, hs => by
    rw [List.nodup_cons] at h
    have hx := hs x (by simp)
    have h1 : l.length ≤ (m.erase x).length := nodup_le' h.2 fun y hy => (List.mem_erase_of_ne (fun e => h.1 (by rw [← e]; exact hy))).2 (hs y (by simp [hy]))
    rw [List.length_erase_of_mem hx] at h1
    have : 0 < m.length := List.length_pos_of_mem hx
    simp only [List.length_cons]
    omega
/-- The order of the steps does not count. -/
theorem closeM_same {nx nx' : Word → List Word} (he : ∀ v x, x ∈ nx v ↔ x ∈ nx' v) (w : Word) :
    match closeM nx w, closeM nx' w with
    | some ws, some ws' => ∀ y, y ∈ ws ↔ y ∈ ws'
    | none, none => True
    | _, _ => False := by
  have one : ∀ {nx nx' : Word → List Word}, (∀ v x, x ∈ nx v ↔ x ∈ nx' v) → ∀ {ws : List WN}, closeM nx w = some ws → closeM nx' w = none → False := by
    intro nx nx' he ws h h'
    have hc := closeM_some h
    obtain ⟨m, h1, h2, h3⟩ := closeM_none h'
    have := nodup_le' (m := ws.map (·.1)) h1 fun x hx => by
      obtain ⟨k, hk⟩ := h3 x hx
      obtain ⟨z, hz, e, _⟩ := hc.all k x (hk.congr fun v x => (he v x).symm)
      exact List.mem_map.2 ⟨z, hz, e⟩
    have hl := hc.len
    rw [List.length_map, h2] at this
    omega
  have two : ∀ {nx nx' : Word → List Word}, (∀ v x, x ∈ nx v ↔ x ∈ nx' v) → ∀ {ws ws' : List WN}, closeM nx w = some ws → closeM nx' w = some ws' → ∀ y, y ∈ ws → y ∈ ws' := by
    intro nx nx' he ws ws' h h' y hy
    have hc := closeM_some h
    have hc' := closeM_some h'
    obtain ⟨z, hz, e1, e2⟩ := hc'.all _ _ ((hc.reach y hy).congr he)
    obtain ⟨y', hy', e3, e4⟩ := hc.all _ _ ((hc'.reach z hz).congr fun v x => (he v x).symm)
    have e5 : y' = y := by
      have hn := hc.nodup
      obtain ⟨i, hi, rfl⟩ := List.getElem_of_mem hy
      obtain ⟨j, hj, rfl⟩ := List.getElem_of_mem hy'
      have : i = j := by
        have := List.pairwise_iff_getElem.1 hn
        apply Classical.byContradiction
        intro hne
        rcases Nat.lt_or_gt_of_ne hne with hlt | hgt
        · have := this i j (by simpa using hi) (by simpa using hj) hlt
          simp only [List.getElem_map] at this
          exact this (by rw [e3, e1])
        · have := this j i (by simpa using hj) (by simpa using hi) hgt
          simp only [List.getElem_map] at this
          exact this (by rw [e3, e1])
      subst this; rfl
    rw [e5] at e4
    have : z = y := by
      obtain ⟨a, b⟩ := z
      obtain ⟨c, d⟩ := y
      simp only at e1 e2 e4
      rw [e1]
      congr 1
      omega
    rw [← this]; exact hz
  cases h : closeM nx w with
  | none =>
    cases h' : closeM nx' w with
    | none => trivial
    | some ws' => exact one (fun v x => (he v x).symm) h' h
  | some ws =>
    cases h' : closeM nx' w with
    | none => exact one he h h'
    | some ws' => exact fun y => ⟨two he h h' y, two (fun v x => (he v x).symm) h' h y⟩
end Go.Proofs.YtkhddecnllcaiaaGreat
end

section
/- Plain: the keys of words, and a map from words to their places. -/
namespace Go.Proofs.YtkhddecnllcaiaaGreat
open Go.Abs Go

theorem strOf_data : ∀ ns : List Int, (strOf ns).data.toList = ns.map fun n => UInt8.ofNat n.toNat := by
  have h : ∀ (ns : List Int) (r : ByteArray), (ns.foldl (fun r n => r.push (UInt8.ofNat n.toNat)) r).data.toList = r.data.toList ++ ns.map fun n => UInt8.ofNat n.toNat := by
    intro ns
    induction ns with
    | nil => intro r; simp
    | cons n ns ih =>
      intro r
      rw [List.foldl_cons, ih]
      simp [ByteArray.push]
  intro ns
  unfold strOf
  rw [h]
  simp
/-- The key of a word. -/
def keyS (w : List Int) : ByteArray := strOf (w.map fun x => 48 + x)
@[simp] def keyV (w : List Int) : AV := .raw (.string (keyS w))
theorem ofNat_inj {a b : Nat} (ha : a < 256) (hb : b < 256) (h : UInt8.ofNat a = UInt8.ofNat b) : a = b := by
  have := congrArg UInt8.toNat h
  simp only [UInt8.toNat_ofNat'] at this
  omega
/-- A word of sounds. -/
def fine (w : List Int) : Prop := ∀ x ∈ w, 0 ≤ x ∧ x ≤ 5
theorem keyS_inj : ∀ {a b : List Int}, fine a → fine b → keyS a = keyS b → a = b := by
  intro a b ha hb h
  have h2 := congrArg (fun z : ByteArray => z.data.toList) h
  simp only [keyS, strOf_data, List.map_map] at h2
  clear h
  induction a generalizing b with
  | nil =>
    cases b with
    | nil => rfl
    | cons y b => simp at h2
  | cons x a ih =>
    cases b with
    | nil => simp at h2
    | cons y b =>
      simp only [List.map_cons, List.cons.injEq, Function.comp] at h2
      have hx := ha x (by simp)
      have hy := hb y (by simp)
      have := ofNat_inj (by omega) (by omega) h2.1
      rw [ih (fun z hz => ha z (by simp [hz])) (fun z hz => hb z (by simp [hz])) h2.2]
      congr 1
      omega
/-- The entries of the words' places. -/
def entsF (k : Nat) : List Word → List AV
  | [] => []
  | w :: l => .tup [keyV w, iv k] :: entsF (k + 1) l
theorem entsF_len : ∀ (k : Nat) (l : List Word), (entsF k l).length = l.length
  | k, [] => rfl
  | k, w :: l => by simp [entsF, entsF_len]
theorem entsF_push : ∀ (k : Nat) (l : List Word) (w : Word), entsF k (l ++ [w]) = entsF k l ++ [.tup [keyV w, iv ((k + l.length : Nat) : Int)]]
  | k, [], w => rfl
  | k, x :: l, w => by
    simp only [List.cons_append, entsF, entsF_push (k + 1) l w, List.length_cons]
    rw [show k + 1 + l.length = k + (l.length + 1) by omega]
theorem keysOK_ents : ∀ (k : Nat) (l : List Word), keysOK .str (entsF k l) = true
  | k, [] => rfl
  | k, w :: l => by simp [entsF, keysOK, entK, akey, KK.fits, keysOK_ents]
theorem mfind_none : ∀ {k : Nat} {l : List Word} {w : Word} {j : Nat}, (∀ x ∈ l, fine x) → fine w → w ∉ l → mfind (.str (keyS w)) (entsF k l) j = none
  | k, [], w, j, _, _, _ => rfl
  | k, x :: l, w, j, hl, hw, h => by
    rw [entsF, mfind, if_neg ?_]
    · exact mfind_none (fun y hy => hl y (by simp [hy])) hw fun hm => h (by simp [hm])
    · intro e
      simp only [entK, akey, keyV, Option.some.injEq, Key.str.injEq] at e
      exact h (by simp [keyS_inj (hl x (by simp)) hw e])
theorem mfind_some : ∀ {k : Nat} {l : List Word} {w : Word} {j : Nat}, (∀ x ∈ l, fine x) → w ∈ l → ∃ i, i < l.length ∧ el l i = w ∧ mfind (.str (keyS w)) (entsF k l) j = some (j + i, iv ((k + i : Nat) : Int))
  | k, [], w, j, _, h => by cases h
  | k, x :: l, w, j, hl, h => by
    rw [entsF, mfind]
    by_cases e : x = w
    · subst e
      exact ⟨0, by simp, rfl, by simp [entK, akey, entW]⟩
    · have hm : w ∈ l := by
        rcases List.mem_cons.1 h with e' | h
        · exact absurd e'.symm e
        · exact h
      obtain ⟨i, h1, h2, h3⟩ := mfind_some (k := k + 1) (j := j + 1) (fun y hy => hl y (by simp [hy])) hm
      refine ⟨i + 1, by simp; omega, by simpa [el] using h2, ?_⟩
      rw [if_neg ?_, h3]
      · simp only [Option.some.injEq, Prod.mk.injEq]
        exact ⟨by omega, by rw [show k + 1 + i = k + (i + 1) by omega]⟩
      · intro e2
        simp only [entK, akey, keyV, Option.some.injEq, Key.str.injEq] at e2
        exact e (keyS_inj (hl x (by simp)) (hl w (by simp [hm])) e2)
end Go.Proofs.YtkhddecnllcaiaaGreat
end

section
/- Contracts: the library's DeleteFunc; grounds without one; the statement OrderGrounds. -/
namespace Go.Proofs.YtkhddecnllcaiaaGreat
open Go.Abs Go
set_option maxRecDepth 20000
set_option maxHeartbeats 2000000
attribute [local irreducible] PreK CondK CallK CallG CallX LoopK

end Go.Proofs.YtkhddecnllcaiaaGreat
end

section
/- Functions of the cut as the value layer reads them. (written by gen.py) -/
set_option maxRecDepth 20000
namespace Go.Proofs.YtkhddecnllcaiaaGreat
open Go.Abs Go

end Go.Proofs.YtkhddecnllcaiaaGreat
end

section
/- Plain: weights that hold bound derivations; the smallest weights are small. -/
namespace Go.Proofs.YtkhddecnllcaiaaGreat
open Go.Abs Go

/-- The weight of sounds. -/
def weighM (o : List Int) : List Int → Int
  | [] => 0
  | x :: w => el o x.toNat + weighM o w
/-- One round over rules: none where one puts in; else the weights, and whether some grew. -/
def passM : List Rule → List Int × Bool → Option (List Int × Bool)
  | [], a => some a
  | r :: s, (o, b) => if r.frm < 0 then none else if el o r.frm.toNat < weighM o r.to + 1 then passM s (o.set r.frm.toNat (weighM o r.to + 1), true) else passM s (o, b)
/-- At most n rounds: none if they still grow in the last one. -/
def roundsM (s : List Rule) : Nat → List Int → Option (List Int)
  | 0, _ => none
  | n + 1, o => match passM s (o, false) with
    | none => none
    | some (o', g) => if g then roundsM s n o' else some o'

theorem el_set (o : List Int) (i k : Nat) (v : Int) (hi : i < o.length) : el (o.set i v) k = if i = k then v else el o k := by
  unfold el
  rw [List.getD_eq_getElem?_getD, List.getD_eq_getElem?_getD, List.getElem?_set]
  by_cases h : i = k
  · subst h; simp [hi]
  · simp [h]
theorem weighM_append (o : List Int) : ∀ a b : List Int, weighM o (a ++ b) = weighM o a + weighM o b
  | [], b => by simp [weighM]
  | x :: a, b => by simp only [List.cons_append, weighM, weighM_append o a b]; omega
theorem weighM_mono {o o' : List Int} (h : ∀ k, el o k ≤ el o' k) : ∀ w : List Int, weighM o w ≤ weighM o' w
  | [] => by simp [weighM]
  | x :: w => by
    have := h x.toNat
    have := weighM_mono h w
    simp only [weighM]; omega
theorem weighM_nonneg {o : List Int} (h : ∀ k, 0 ≤ el o k) : ∀ w : List Int, 0 ≤ weighM o w
  | [] => by simp [weighM]
  | x :: w => by
    have := h x.toNat
    have := weighM_nonneg h w
    simp only [weighM]; omega
structure Kept (s : List Rule) (o : List Int) : Prop where
  len : o.length = 6
  pos : ∀ k, 0 ≤ el o k
  sup : ∀ k, el o k = 0 ∨ ∃ r ∈ s, r.frm = k ∧ el o k ≤ weighM o r.to + 1
theorem Kept.put {s : List Rule} {o : List Int} (h : Kept s o) {r : Rule} (hr : r ∈ s) (h0 : 0 ≤ r.frm) (h5 : r.frm ≤ 5) (hlt : el o r.frm.toNat < weighM o r.to + 1) :
    Kept s (o.set r.frm.toNat (weighM o r.to + 1)) := by
  have hi : r.frm.toNat < o.length := by rw [h.len]; omega
  have hle : ∀ k, el o k ≤ el (o.set r.frm.toNat (weighM o r.to + 1)) k := by
    intro k
    rw [el_set _ _ _ _ hi]
    split
    · rename_i e; subst e; omega
    · exact Int.le_refl _
  refine ⟨by rw [List.length_set]; exact h.len, fun k => Int.le_trans (h.pos k) (hle k), fun k => ?_⟩
  by_cases e : r.frm.toNat = k
  · refine .inr ⟨r, hr, by omega, ?_⟩
    rw [el_set _ _ _ _ hi, if_pos e]
    have := weighM_mono hle r.to
    omega
  · rw [el_set _ _ _ _ hi, if_neg e]
    rcases h.sup k with h1 | ⟨q, hq, h2, h3⟩
    · exact .inl h1
    · have := weighM_mono hle q.to
      exact .inr ⟨q, hq, h2, by omega⟩
theorem kept_zero (s : List Rule) : Kept s [0, 0, 0, 0, 0, 0] := by
  have h0 : ∀ k, el ([0, 0, 0, 0, 0, 0] : List Int) k = 0 := by
    intro k
    match k with
    | 0 => rfl
    | 1 => rfl
    | 2 => rfl
    | 3 => rfl
    | 4 => rfl
    | 5 => rfl
    | k + 6 => rfl
  exact ⟨rfl, fun k => by rw [h0 k]; exact Int.le_refl _, fun k => .inl (h0 k)⟩

/-- How many weights are below one. -/
def under (o : List Int) (v : Int) : Nat := o.countP fun x => decide (x < v)
theorem el_mem (o : List Int) (k : Nat) (h : k < o.length) : el o k ∈ o := by rw [el_eq o k h]; exact List.getElem_mem h
/-! ### each step makes the word lighter -/
theorem applyM_zero {r : Rule} {w : List Int} {p : Int} (h : (applyM r w p).2 = 0) : wordedErr r w = 0 ∧ placeB r w p = true ∧ (applyM r w p).1 = putW r w p.toNat := by
  unfold applyM at h ⊢
  by_cases h1 : wordedErr r w = 0
  · by_cases h2 : placeB r w p = false
    · simp [h1, h2] at h
    · by_cases h3 : 8 < (putW r w p.toNat).length
      · simp [h1, h2, h3] at h
      · simp only [Bool.not_eq_false] at h2
        simp [h1, h2, h3]
  · simp [h1] at h
theorem movesR_mem {r : Rule} {w : List Int} {k : Nat} : ∀ (n i : Nat), ∀ m ∈ movesR r w k i n, m.step.rule = k ∧ (applyM r w m.step.place).2 = 0
  | 0, i, m, h => by simp [movesR] at h
  | n + 1, i, m, h => by
    rw [movesR] at h
    rcases List.mem_append.1 h with h | h
    · unfold moveAt at h
      split at h
      · rename_i h0
        simp only [List.mem_singleton] at h
        subst h
        exact ⟨rfl, h0⟩
      · cases h
    · exact movesR_mem n (i + 1) m h
theorem movesF_mem {w : List Int} : ∀ (s : List Rule) (k : Nat), ∀ m ∈ movesF w k s, ∃ i, i < s.length ∧ m.step.rule = ((k + i : Nat) : Int) ∧ (applyM (el s i) w m.step.place).2 = 0
  | [], k, m, h => by simp [movesF] at h
  | r :: s, k, m, h => by
    rw [movesF] at h
    rcases List.mem_append.1 h with h | h
    · obtain ⟨h1, h2⟩ := movesR_mem _ _ m h
      exact ⟨0, by simp, h1, h2⟩
    · obtain ⟨i, h1, h2, h3⟩ := movesF_mem s (k + 1) m h
      exact ⟨i + 1, by simp; omega, by rw [h2]; congr 1; omega, h3⟩
theorem stepsM_apply {s : List Rule} {w : List Int} {x : Step} (h : x ∈ stepsM s w) : ∃ i, i < s.length ∧ x.rule = (i : Int) ∧ (applyM (el s i) w x.place).2 = 0 := by
  unfold stepsM at h
  split at h
  · cases h
  · obtain ⟨m, hm, rfl⟩ := List.mem_map.1 h
    obtain ⟨i, h1, h2, h3⟩ := movesF_mem s 0 m hm
    exact ⟨i, h1, by rw [h2]; congr 1; omega, h3⟩
theorem choiceM_mem {s : List Rule} {w gs : List Int} {c : Choice} (h : choiceM s w gs = some c) : (⟨c.rule, c.place⟩ : Step) ∈ stepsM s w := by
  unfold choiceM at h
  generalize stepsM s w = l at h
  match l with
  | [] => simp at h
  | x :: xs =>
    dsimp only at h
    cases hb : bestM s w gs (x :: xs) with
    | none =>
      rw [hb] at h
      simp only [Option.some.injEq] at h
      subst h
      show el (x :: xs) xs.length ∈ _
      rw [el_eq _ _ (by simp)]; exact List.getElem_mem _
    | some a =>
      rw [hb] at h
      simp only [Option.some.injEq] at h
      subst h
      exact List.mem_of_find?_eq_some hb
/-- Weights that hold for a system. -/
def holdsM (s : List Rule) (o : List Int) : Prop := ∀ r ∈ s, 0 ≤ r.frm ∧ weighM o r.to + 1 ≤ el o r.frm.toNat
theorem put_lighter {r : Rule} {w o : List Int} {p : Int} (h0 : 0 ≤ r.frm) (hw : weighM o r.to + 1 ≤ el o r.frm.toNat) (hp : placeB r w p = true) : weighM o (putW r w p.toNat) + 1 ≤ weighM o w := by
  unfold placeB at hp
  simp only [Bool.and_eq_true, decide_eq_true_eq] at hp
  obtain ⟨h1, h2, h3⟩ := hp
  have hl : long r = 1 := by unfold long; rw [if_neg (by omega)]
  rw [hl] at h2
  have hlt : p.toNat < w.length := by omega
  unfold isAt at h3
  simp only [Bool.and_eq_true, Bool.or_eq_true, decide_eq_true_eq] at h3
  have hf : el w p.toNat = r.frm := by
    rcases h3.1.1 with e | e
    · omega
    · exact e
  have hwd : w = w.take p.toNat ++ (el w p.toNat :: w.drop (p.toNat + 1)) := by rw [← drop_cons w _ hlt, List.take_append_drop]
  have e1 : weighM o w = weighM o (w.take p.toNat) + (el o r.frm.toNat + weighM o (w.drop (p.toNat + 1))) := by
    conv => lhs; rw [hwd]
    rw [weighM_append, weighM, hf]
  have e2 : weighM o (putW r w p.toNat) = weighM o (w.take p.toNat) + weighM o r.to + weighM o (w.drop (p.toNat + 1)) := by
    unfold putW
    rw [hl, weighM_append, weighM_append]; rfl
  omega
theorem lighter {s : List Rule} {w gs o : List Int} {c : Choice} (ho : holdsM s o) (h : choiceM s w gs = some c) : weighM o (nextW s w c) + 1 ≤ weighM o w := by
  obtain ⟨i, h1, h2, h3⟩ := stepsM_apply (choiceM_mem h)
  dsimp only at h2 h3
  have hm := ho (el s i) (by rw [el_eq s i h1]; exact List.getElem_mem h1)
  obtain ⟨_, h4, h5⟩ := applyM_zero h3
  unfold nextW
  have e : c.rule.toNat = i := by omega
  rw [e, h5]
  exact put_lighter hm.1 hm.2 h4
end Go.Proofs.YtkhddecnllcaiaaGreat
end

section
/- Plain: raising weights in seven rounds, or as long as they are small: the same. -/
namespace Go.Proofs.YtkhddecnllcaiaaGreat
open Go.Abs Go

def leW (o o' : List Int) : Prop := ∀ k, el o k ≤ el o' k
theorem leW.trans {a b c : List Int} (h : leW a b) (k : leW b c) : leW a c := fun i => Int.le_trans (h i) (k i)
theorem leW.refl (a : List Int) : leW a a := fun _ => Int.le_refl _
end Go.Proofs.YtkhddecnllcaiaaGreat
end

section
/- Contracts: weights, and the statement OrderWeighs. -/
namespace Go.Proofs.YtkhddecnllcaiaaGreat
open Go.Abs Go
set_option maxRecDepth 20000
set_option maxHeartbeats 2000000
attribute [local irreducible] PreK CondK CallK CallG CallX LoopK
attribute [local simp] avsEq avEq akind teq vkind vEq

theorem weigh_c (o w : List Int) (ho : o.length = 6) (hl : w.length ≤ 1000) (hw : ∀ x ∈ w, 0 ≤ x ∧ x ≤ 5) (h0 : ∀ k, 0 ≤ el o k) (hb : weighM o w ≤ 1000000000000000) : CallP Tryz.prog 73 [ints o, ints w] (iv (weighM o w)) := by
  refine C73 (by simp) ?_
  generalize hR : weighM o w = R at hb
  simp [A73]
  refine LoopK.by (ι := Nat × Int) (fun i => ⟨[(10, iv i.1), (9, iv w.length), (8, ints w), (5, iv i.2), (0, ints o)], []⟩) (fun i => w.length - i.1) (fun i => i.1 ≤ w.length ∧ 0 ≤ i.2 ∧ i.2 + weighM o (w.drop i.1) = R) (0, 0) (by simpa using hR) (by simp) ?_
  intro ⟨i, n⟩ Q' ⟨hi, hn, hc⟩ hq he hr
  dsimp only at hi hn hc
  try simp 
  refine CondK.intro (fun h1 => ?_) (fun h1 => ?_)
  · simp at h1
    have hx := hw (el w i) (el_mem w i h1)
    rw [drop_cons w i h1, weighM] at hc
    have h2 := weighM_nonneg h0 (w.drop (i + 1))
    have h3 := h0 (el w i).toNat
    have h4 : (el w i).toNat < o.length := by omega
    simp [h1]
    refine PreK.intro (by first | omega | (intros; first | omega | (refine ⟨by omega, ?_⟩; simp_all; done) | (simp_all; done) | (simp_all; omega))) fun _ => ?_
    try simp 
    have h5 : (0 : Int) ≤ el w i := hx.1
    simp [h4, h5]
    refine PreK.intro (by first | omega | (intros; first | omega | (refine ⟨by omega, ?_⟩; simp_all; done) | (simp_all; done) | (simp_all; omega))) fun _ => ?_
    try simp 
    refine PreK.intro (by first | omega | (intros; first | omega | (refine ⟨by omega, ?_⟩; simp_all; done) | (simp_all; done) | (simp_all; omega))) fun _ => ?_
    try simp 
    refine hq (i + 1, n + el o (el w i).toNat) _ ⟨by dsimp only; omega, by dsimp only; omega, by dsimp only; omega⟩ (by dsimp only; omega) (by simp)
  · simp at h1
    rw [List.drop_eq_nil_of_le (by omega), weighM] at hc
    try simp 
    apply he
    simp [← hc]
theorem word_in {w : List Int} (h : wordErr w = 0) : w.length ≤ 8 ∧ ∀ x ∈ w, 0 ≤ x ∧ x ≤ 5 := by
  obtain ⟨h1, h2⟩ := wordErr_zero h
  refine ⟨h1, fun x hx => ?_⟩
  have := List.all_eq_true.1 h2 x hx
  simpa [isSound] using this
def WeightsR (s : List Rule) : List Int × Bool × Int :=
  if sysErr s ≠ 0 then ([], false, sysErr s) else match roundsM s 7 [0, 0, 0, 0, 0, 0] with
    | none => ([], false, 0)
    | some o => (o, true, 0)
theorem ruleErr_snd {r : Rule} (h : ruleErr r = 0) : ∀ x ∈ r.to, isSound x = true := by
  unfold ruleErr at h
  split at h
  · cases h
  · split at h
    · cases h
    · split at h
      · cases h
      · rename_i h3
        simp only [Bool.or_eq_true, not_or, Bool.not_eq_true, List.any_eq_false] at h3
        intro x hx
        have := h3.1.1 x hx
        simpa using this
theorem rule_in {r : Rule} (h : ruleErr r = 0) : -1 ≤ r.frm ∧ r.frm ≤ 5 ∧ r.to.length ≤ 2 ∧ ∀ x ∈ r.to, 0 ≤ x ∧ x ≤ 5 := by
  have h1 := ruleErr_frm h
  simp [isNeighbor, isSound] at h1
  refine ⟨by omega, by omega, ruleErr_to h, fun x hx => ?_⟩
  have := ruleErr_snd h x hx
  simpa [isSound] using this
/-- A bound of weights that were raised so often. -/
def bnd (e : Nat) : Int := ((2 ^ e : Nat) : Int) - 1
theorem bnd_mono {a b : Nat} (h : a ≤ b) : bnd a ≤ bnd b := by
  have := Nat.pow_le_pow_right (n := 2) (by omega) h
  unfold bnd; omega
theorem bnd_succ (e : Nat) : bnd (e + 1) = 2 * bnd e + 1 := by
  unfold bnd
  rw [Nat.pow_succ]
  omega
theorem bnd_top {e : Nat} (h : e ≤ 42) : bnd e ≤ 4398046511103 := by
  have := bnd_mono h
  have : bnd 42 = 4398046511103 := rfl
  omega
theorem weigh_bnd {o : List Int} {e : Nat} (h0 : ∀ k, 0 ≤ el o k) (hb : ∀ k, el o k ≤ bnd e) {w : List Int} (hl : w.length ≤ 2) : weighM o w ≤ 2 * bnd e := by
  have h1 : 0 ≤ bnd e := Int.le_trans (h0 0) (hb 0)
  match w, hl with
  | [], _ => simp only [weighM]; omega
  | [x], _ => have := hb x.toNat; simp only [weighM]; omega
  | [x, y], _ => have := hb x.toNat; have := hb y.toNat; simp only [weighM]; omega
  | _ :: _ :: _ :: _, hl => exact absurd hl (by simp)
def rndK (s : List Rule) (n : Nat) : Option (List Int × Bool) → Option (List Int)
  | none => none
  | some (o, g) => if g then roundsM s n o else some o
theorem roundsM_succ (s : List Rule) (n : Nat) (o : List Int) : roundsM s (n + 1) o = rndK s n (passM s (o, false)) := by
  rw [roundsM]
  cases passM s (o, false) with
  | none => rfl
  | some p => rfl
theorem Weights_c (s : List Rule) (hs : Sys.small s) : CallP Tryz.prog 34 [rulesV s] (.tup [ints (WeightsR s).1, bv (WeightsR s).2.1, iv (WeightsR s).2.2]) := by
  refine C34 (by simp) ?_
  simp [A34]
  try simp 
  repeat' (first
    | (refine CallX.pure (Validate_c s hs) (by simp) (by simp) ?_; try simp )
    | (refine CallK.intro (Validate_c s hs) (by simp) (by simp) ?_; try simp )
    | (refine CallG.intro (fun _ => Validate_c s hs) (by simp) (by simp) ?_; try simp )
    | ((with_reducible refine PreK.intro ?_ ?_); (next => (first | omega | (intros; first | omega | (refine ⟨by omega, ?_⟩; repeat (first | assumption | constructor)) | assumption))); intro _; try simp )
    | fail)
  refine CondK.intro (fun h1 => ?_) (fun h1 => ?_)
  · simp at h1
    simp [WeightsR, h1]
  · simp at h1
    obtain ⟨hs6, hsr⟩ := sysErr_zero h1
    have hRR : WeightsR s = match roundsM s 7 [0, 0, 0, 0, 0, 0] with | none => ([], false, 0) | some o => (o, true, 0) := by simp [WeightsR, h1]
    rw [hRR]
    generalize hR : roundsM s 7 [0, 0, 0, 0, 0, 0] = R
    try simp 
    have hz : ∀ k, el ([0, 0, 0, 0, 0, 0] : List Int) k = 0 := fun k => (kept_zero []).sup k |>.elim id (fun ⟨r, hr, _⟩ => by cases hr)
    refine LoopK.by (ι := Nat × List Int) (fun i => ⟨[(18, iv i.1), (0, rulesV s), (6, .sl 17 1 0 6)], [(17, some ⟨1, i.2.map iv, 1, false⟩)]⟩) (fun i => 7 - i.1)
      (fun i => i.1 ≤ 6 ∧ i.2.length = 6 ∧ (∀ k, 0 ≤ el i.2 k) ∧ (∀ k, el i.2 k ≤ bnd (6 * i.1)) ∧ roundsM s (7 - i.1) i.2 = R) (0, [0, 0, 0, 0, 0, 0]) ⟨by simp, rfl, fun k => by rw [hz]; exact Int.le_refl 0, fun k => by rw [hz]; exact Int.le_refl 0, hR⟩ (by simp) ?_
    intro ⟨k, o⟩ Q' ⟨hk, hol, ho0, hob, hc⟩ hq he hr
    dsimp only at hk hol ho0 hob hc
    rw [show 7 - k = (6 - k) + 1 by omega, roundsM_succ] at hc
    try simp 
    refine CondK.intro (fun h2 => ?_) (fun h2 => ?_)
    · try simp 
      refine LoopK.by (ι := Nat × List Int × Bool) (fun i => ⟨[(23, iv i.1), (22, iv s.length), (21, rulesV s), (18, iv k), (7, iv k), (8, bv i.2.2), (0, rulesV s), (6, .sl 17 1 0 6)], [(17, some ⟨1, i.2.1.map iv, 1, false⟩)]⟩) (fun i => s.length - i.1)
        (fun i => i.1 ≤ s.length ∧ i.2.1.length = 6 ∧ (∀ k, 0 ≤ el i.2.1 k) ∧ (∀ j, el i.2.1 j ≤ bnd (6 * k + i.1)) ∧ rndK s (6 - k) (passM (s.drop i.1) (i.2.1, i.2.2)) = R) (0, o, false) ⟨by simp, hol, ho0, hob, hc⟩ (by simp) ?_
      intro ⟨j, p, g⟩ Q'' ⟨hj, hpl, hp0, hpb, hc'⟩ hq' he' hr'
      dsimp only at hj hpl hp0 hpb hc'
      try simp 
      refine CondK.intro (fun h3 => ?_) (fun h3 => ?_)
      · simp at h3
        obtain ⟨r1, r2, r3, r4⟩ := rule_in (hsr (el s j) (by rw [el_eq s j h3]; exact List.getElem_mem h3))
        rw [drop_cons s j h3, passM] at hc'
        simp [h3]
        refine CondK.intro (fun h4 => ?_) (fun h4 => ?_)
        · simp at h4
          rw [if_pos h4] at hc'
          simp only [rndK] at hc'
          try simp 
          apply hr'
          apply hr
          simp [← hc']
        · simp at h4
          rw [if_neg (by omega)] at hc'
          have hb2 := weigh_bnd hp0 hpb r3
          have ht := bnd_top (e := 6 * k + j) (by omega)
          have hw0 := weighM_nonneg hp0 (el s j).to
          have hwc := weigh_c p (el s j).to hpl (by omega) r4 hp0 (by omega)
          have hfl : (el s j).frm.toNat < p.length := by omega
          have hf0 : 0 ≤ (el s j).frm := by omega
          have hf6 : (el s j).frm.toNat < 6 := by omega
          have hbs := bnd_succ (6 * k + j)
          have hbm := bnd_mono (a := 6 * k + j) (b := 6 * k + j + 1) (by omega)
          have ht6 : (p.map iv).take 6 = p.map iv := List.take_of_length_le (by simp; omega)
          try simp 
          refine CallX.pure (by simpa [ht6] using hwc) (by simp [hpl]) (by simp) ?_
          simp [hfl, hf0]
          repeat (refine PreK.intro (by first | omega | (intros; first | omega | (refine ⟨by omega, ?_⟩; simp_all; done) | (simp_all; done) | (simp_all; omega))) fun _ => ?_; (try simp [hfl, hf0, hf6]))
          repeat (refine PreK.intro (by first | omega | (intros; first | omega | (refine ⟨by omega, ?_⟩; simp_all; done) | (simp_all; done) | (simp_all; omega))) fun _ => ?_; (try simp [hfl, hf0, hpl]))
          refine CondK.intro (fun h5 => ?_) (fun h5 => ?_)
          · simp at h5
            rw [if_pos (by omega)] at hc'
            repeat (refine PreK.intro (by first | omega | (intros; first | omega | (refine ⟨by omega, ?_⟩; simp_all; done) | (simp_all; done) | (simp_all; omega))) fun _ => ?_; (try simp [hfl, hf0, hf6]))
            refine hq' (j + 1, p.set (el s j).frm.toNat (weighM p (el s j).to + 1), true) _ ⟨by dsimp only; omega, by simpa using hpl, fun x => ?_, fun x => ?_, hc'⟩ (by dsimp only; omega) (by simp [hfl, hf0, hpl])
            · dsimp only
              rw [el_set _ _ _ _ hfl]
              split
              · omega
              · exact hp0 x
            · dsimp only
              rw [el_set _ _ _ _ hfl, show 6 * k + (j + 1) = 6 * k + j + 1 by omega]
              split
              · omega
              · have := hpb x; omega
          · simp at h5
            rw [if_neg (by omega)] at hc'
            repeat (refine PreK.intro (by first | omega | (intros; first | omega | (refine ⟨by omega, ?_⟩; simp_all; done) | (simp_all; done) | (simp_all; omega))) fun _ => ?_; (try simp [hfl, hf0, hf6]))
            refine hq' (j + 1, p, g) _ ⟨by dsimp only; omega, hpl, hp0, fun x => ?_, hc'⟩ (by dsimp only; omega) (by simp)
            dsimp only
            rw [show 6 * k + (j + 1) = 6 * k + j + 1 by omega]
            have := hpb x
            omega
      · simp at h3
        rw [List.drop_eq_nil_of_le (by omega), passM] at hc'
        have hjs : j ≤ 6 := by omega
        try simp 
        apply he'
        cases g
        · simp only [rndK, Bool.false_eq_true, if_false] at hc'
          have ht6 : (p.map iv).take 6 = p.map iv := List.take_of_length_le (by simp; omega)
          try simp 
          refine CondK.intro (fun h4 => ?_) (fun h4 => ?_)
          · try simp 
            apply he
            simp [← hc', hpl, ht6]
          · simp at h4
        · simp only [rndK, if_true] at hc'
          try simp 
          refine CondK.intro (fun h4 => ?_) (fun h4 => ?_)
          · simp at h4
          · try simp 
            refine CondK.intro (fun h6 => ?_) (fun h6 => ?_)
            · simp at h6
              have hk6 : k = 6 := by omega
              subst hk6
              simp only [Nat.sub_self, roundsM] at hc'
              try simp 
              apply hr
              simp [← hc']
            · simp at h6
              repeat (refine PreK.intro (by first | omega | (intros; first | omega | (refine ⟨by omega, ?_⟩; simp_all; done) | (simp_all; done) | (simp_all; omega))) fun _ => ?_; (try simp ))
              refine hq (k + 1, p) _ ⟨by dsimp only; omega, hpl, hp0, fun x => ?_, by dsimp only; rw [show 7 - (k + 1) = 6 - k by omega]; exact hc'⟩ (by dsimp only; omega) (by simp)
              have h7 := hpb x
              have h8 := bnd_mono (a := 6 * k + j) (b := 6 * (k + 1)) (by omega)
              dsimp only
              omega
    · simp at h2; omega
end Go.Proofs.YtkhddecnllcaiaaGreat
end

section
/- Plain: the words that a word reaches, with the step to each. -/
namespace Go.Proofs.YtkhddecnllcaiaaGreat
open Go.Abs Go

/-- Words, and whence and by which step each was found first. -/
structure Gr where
  ws : List Word
  frm : List Int
  stp : List Step
def addG (i : Nat) : Gr → List Move → Option Gr
  | g, [] => some g
  | g, m :: l => if m.word ∈ g.ws then addG i g l else if g.ws.length = 300 then none else addG i ⟨g.ws ++ [m.word], g.frm ++ [(i : Int)], g.stp ++ [m.step]⟩ l
def closeG (s : List Rule) : Nat → Nat → Gr → Option Gr
  | 0, _, g => some g
  | n + 1, i, g => if i < g.ws.length then match addG i g (movesM s (el g.ws i)) with
      | none => none
      | some g' => closeG s n (i + 1) g'
    else some g
def reachG (s : List Rule) (w : Word) : Option Gr := closeG s 301 0 ⟨[w], [-1], [⟨0, 0⟩]⟩
/-- What holds of it all the time. -/
structure Gr.ok (g : Gr) : Prop where
  fine : ∀ x ∈ g.ws, wordErr x = 0
  num : g.ws.length ≤ 300
  frm : g.frm.length = g.ws.length
  stp : g.stp.length = g.ws.length
  some : 0 < g.ws.length
theorem fine_of {w : Word} (h : wordErr w = 0) : fine w := by
  obtain ⟨_, h2⟩ := wordErr_zero h
  intro x hx
  have := List.all_eq_true.1 h2 x hx
  simpa [isSound] using this
theorem wordErr_by {w : List Int} (h : w.length ≤ 8) (h2 : ∀ x ∈ w, 0 ≤ x ∧ x ≤ 5) : wordErr w = 0 := by
  unfold wordErr
  rw [if_neg (by omega)]
  have : (w.any fun x => !isSound x) = false := by
    simp only [List.any_eq_false, Bool.not_eq_true', Bool.not_eq_false]
    intro x hx
    have := h2 x hx
    simp [isSound, this]
  simp [this]
theorem apply_right {s : List Rule} {r : Rule} {w : Word} {p : Int} (hs : sysErr s = 0) (hr : r ∈ s) (hw : wordErr w = 0) (h : (applyM r w p).2 = 0) : wordErr (applyM r w p).1 = 0 := by
  obtain ⟨_, _, h5⟩ := applyM_zero h
  obtain ⟨_, _, _, hx⟩ := rule_in ((sysErr_zero hs).2 r hr)
  obtain ⟨_, hy⟩ := word_in hw
  refine wordErr_by (applyM_len _ _ _) fun x hm => ?_
  rw [h5] at hm
  unfold putW at hm
  rcases List.mem_append.1 hm with hm | hm
  · rcases List.mem_append.1 hm with hm | hm
    · exact hy x (List.mem_of_mem_take hm)
    · exact hx x hm
  · exact hy x (List.mem_of_mem_drop hm)
theorem movesR_word {r : Rule} {w : Word} {k : Nat} : ∀ (n i : Nat), ∀ m ∈ movesR r w k i n, m.word = (applyM r w m.step.place).1 ∧ (applyM r w m.step.place).2 = 0
  | 0, i, m, h => by simp [movesR] at h
  | n + 1, i, m, h => by
    rw [movesR] at h
    rcases List.mem_append.1 h with h | h
    · unfold moveAt at h
      split at h
      · rename_i h0
        simp only [List.mem_singleton] at h
        subst h
        exact ⟨rfl, h0⟩
      · cases h
    · exact movesR_word n (i + 1) m h
theorem movesF_word {w : Word} : ∀ (s : List Rule) (k : Nat), ∀ m ∈ movesF w k s, ∃ r ∈ s, m.word = (applyM r w m.step.place).1 ∧ (applyM r w m.step.place).2 = 0
  | [], k, m, h => by simp [movesF] at h
  | r :: s, k, m, h => by
    rw [movesF] at h
    rcases List.mem_append.1 h with h | h
    · exact ⟨r, by simp, movesR_word _ _ m h⟩
    · obtain ⟨r', h1, h2⟩ := movesF_word s (k + 1) m h
      exact ⟨r', by simp [h1], h2⟩
theorem moves_right {s : List Rule} {w : Word} (hs : sysErr s = 0) (hw : wordErr w = 0) {m : Move} (h : m ∈ movesM s w) : wordErr m.word = 0 := by
  obtain ⟨r, h1, h2, h3⟩ := movesF_word s 0 m h
  rw [h2]
  exact apply_right hs h1 hw h3
theorem Gr.ok.push {g : Gr} (h : g.ok) {w : Word} {f : Int} {x : Step} (hw : wordErr w = 0) (hn : g.ws.length ≠ 300) : Gr.ok ⟨g.ws ++ [w], g.frm ++ [f], g.stp ++ [x]⟩ := by
  have h1 := h.num
  refine ⟨fun y hy => ?_, by simp; omega, by simp [h.frm], by simp [h.stp], by simp⟩
  rcases List.mem_append.1 hy with hy | hy
  · exact h.fine y hy
  · simp only [List.mem_singleton] at hy
    subst hy; exact hw
theorem Gr.start {w : Word} (hw : wordErr w = 0) : Gr.ok ⟨[w], [-1], [⟨0, 0⟩]⟩ := ⟨by simpa using hw, by simp, rfl, rfl, by simp⟩
end Go.Proofs.YtkhddecnllcaiaaGreat
end
