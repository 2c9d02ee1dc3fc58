/- Part 9 of the proof: the value layer and the contracts of the functions that the statement reaches; proved without conditions beyond those each theorem states. -/
import Derived.Test.YtphkchjhghdhiaaGreatV5
import Derived.Test.YtphkchjhghdhiaaGreatV6
import Derived.Test.YtphkchjhghdhiaaGreatV8
set_option linter.unusedSimpArgs false
set_option linter.unusedVariables false

section
/- PURSE -/
/- Contracts: the reference's copy of a table, its own making of two rows of one. -/
namespace Go.Proofs.YtphkchjhghdhiaaGreat
open Go.Abs Go
set_option maxRecDepth 20000
set_option maxHeartbeats 8000000
attribute [local irreducible] PreK CondK CallK CallG CallX LoopK
attribute [local simp] avsEq avEq akind teq vkind vEq

theorem rCopy_o (t : List (List Int)) (h : Sm t) : CallO Tryz.prog 6 [tabV t] 1 (t.map ints) := by
  refine CO6 (by simp) ?_
  have hn := h.num
  simp [A6]
  try simp 
  repeat (refine PreK.intro (by first | omega | (intros; first | omega | (refine ⟨by omega, ?_⟩; simp_all; done) | (simp_all; done) | (simp_all; omega))) fun _ => ?_; (try simp ))
  refine LoopK.by (ι := Nat × Nat × List (List Int)) (fun x => ⟨[(4, iv x.1), (3, .sl 3 x.2.1 0 x.2.2.length), (0, tabV t)], [(3, some ⟨1, x.2.2.map ints, x.2.1, false⟩)]⟩) (fun x => t.length - x.1)
    (fun x => x.1 ≤ t.length ∧ x.2.2.length ≤ x.1 ∧ x.2.2 = t.take x.1) (0, 1, []) ⟨Nat.zero_le _, by simp, by simp⟩ (by simp) ?_
  intro ⟨i, v, out⟩ Q' ⟨hi, hol, ho⟩ hq he hr
  dsimp only at hi hol ho
  by_cases h7 : i < t.length
  · have h7' : (i : Int) < t.length := by omega
    have hst : t.take (i + 1) = t.take i ++ [el t i] := take_succ t i h7
    have hw := h.el i
    try simp [h7, h7']
    repeat (refine PreK.intro (by first | omega | (intros; first | omega | (refine ⟨by omega, ?_⟩; simp_all; done) | (simp_all; done) | (simp_all; omega))) fun _ => ?_; (try simp [h7, h7']))
    refine CondK.tt ?_
    try simp 
    try simp [h7, h7']
    repeat (refine PreK.intro (by first | omega | (intros; first | omega | (refine ⟨by omega, ?_⟩; simp_all; done) | (simp_all; done) | (simp_all; omega))) fun _ => ?_; (try simp [h7, h7']))
    refine hq (i + 1, v + 1, out ++ [el t i]) _ ⟨by dsimp only; omega, by simp; omega, by rw [ho, hst]⟩ (by dsimp only; omega) ?_
    simp
    try exact List.take_of_length_le (by simp)
  · have h7' : ¬ (i : Int) < t.length := by omega
    have : i = t.length := by omega
    subst this
    rw [List.take_length] at ho
    try simp [h7']
    repeat (refine PreK.intro (by first | omega | (intros; first | omega | (refine ⟨by omega, ?_⟩; simp_all; done) | (simp_all; done) | (simp_all; omega))) fun _ => ?_; (try simp [h7']))
    refine CondK.ff ?_
    try simp 
    apply he
    try simp [ho]
    repeat (refine PreK.intro (by first | omega | (intros; first | omega | (refine ⟨by omega, ?_⟩; simp_all; done) | (simp_all; done) | (simp_all; omega))) fun _ => ?_; (try simp [ho]))
theorem rCopy_c (t : List (List Int)) (h : Sm t) : CallP Tryz.prog 6 [tabV t] (tabV t) := CallO.toPV (rCopy_o t h)
/-- The list of the reference. -/
def spT (t : List (List Int)) (k c i : Nat) : List (List Int) := if i ≤ k then t.take i else t.take k ++ ((el t k).take c :: (el t k).drop c :: (t.drop (k + 1)).take (i - (k + 1)))
theorem spT_mid {t : List (List Int)} {k c : Nat} (hk : k < t.length) : spT t k c (k + 1) = spT t k c k ++ [(el t k).take c, (el t k).drop c] := by
  unfold spT
  rw [if_neg (by omega), if_pos (Nat.le_refl _), Nat.sub_self, List.take_zero]
theorem spT_step {t : List (List Int)} {k c i : Nat} (hi : i < t.length) (hne : i ≠ k) : spT t k c (i + 1) = spT t k c i ++ [el t i] := by
  unfold spT
  by_cases h : i ≤ k
  · rw [if_pos (by omega), if_pos h, take_succ t i hi]
  · rw [if_neg (by omega), if_neg h]
    have e : i + 1 - (k + 1) = (i - (k + 1)) + 1 := by omega
    have h2 : i - (k + 1) < (t.drop (k + 1)).length := by rw [List.length_drop]; omega
    have e2 : el (t.drop (k + 1)) (i - (k + 1)) = el t i := by
      unfold Go.Abs.el
      rw [List.getD_eq_getElem?_getD, List.getD_eq_getElem?_getD, List.getElem?_drop, show k + 1 + (i - (k + 1)) = i by omega]
    rw [e, take_succ _ _ h2, e2]
    simp
theorem spT_all {t : List (List Int)} {k c : Nat} (hk : k < t.length) : spT t k c t.length = splitM t k c := by
  unfold spT splitM
  rw [if_neg (by omega), show List.take (t.length - (k + 1)) (List.drop (k + 1) t) = List.drop (k + 1) t from List.take_of_length_le (by rw [List.length_drop]; omega)]
theorem spT_len {t : List (List Int)} {k c i : Nat} (hi : i ≤ t.length) (hk : k < t.length) : (spT t k c i).length ≤ t.length + 1 := by
  unfold spT
  split <;> simp <;> omega
theorem CF8 {args : List AV} {r : AV} (hn : args.length ≤ 72) (h : vc Tryz.prog T [60, 69] A8 (FinF T [(.tmp 6), (.tmp 7)] r) ⟨envOf 0 args, []⟩) : CallP Tryz.prog 8 args r :=
  callPF_of tok mixed Tryz.func8 (by kernel_rfl) (by kernel_rfl) (by kernel_rfl : Tryz.f8.ntmps = 72) (by kernel_rfl : Tryz.f8.body.bind (strip 72 (fun _ => [])) = some A8) hn h
theorem rSplit_m (t : List (List Int)) (k c : Nat) (hs : Sm t) (hok : TabOK t) (hk : k < t.length) (hl : t.length < 6) (h1 : 1 ≤ c) (h2 : c < (el t k).length) : CallP Tryz.prog 8 [tabV t, iv (k : Int), iv (c : Int)] (.tup [tabV (splitM t k c), iv 0]) := by
  refine CF8 (by simp) ?_
  have c1 := rValidate_c t hs
  rw [tabErr_zero.2 hok] at c1
  have hnum := hok.num
  have hlk := hs.el k
  have c2 := within1_c (k : Int) 0 ((t.length : Int) - 1)
  have hw : (decide ((0 : Int) ≤ k) && decide ((k : Int) ≤ (t.length : Int) - 1)) = true := by
    rw [decide_eq_true (by omega), decide_eq_true (by omega)]; rfl
  rw [hw] at c2
  have c3 := within1_c (c : Int) 1 (((el t k).length : Int) - 1)
  have hw3 : (decide ((1 : Int) ≤ c) && decide ((c : Int) ≤ ((el t k).length : Int) - 1)) = true := by
    rw [decide_eq_true (by omega), decide_eq_true (by omega)]; rfl
  rw [hw3] at c3
  have hk' : (k : Int) < t.length := by omega
  have hl6 : ¬ (t.length : Int) = 6 := by omega
  have hl6' : ¬ t.length = 6 := by omega
  have hcl : (c : Int) ≤ (el t k).length := by omega
  have hcn : c ≤ (el t k).length := by omega
  have hmin : min c (el t k).length = c := by omega
  simp [A8]
  try simp 
  repeat' (first
    | (refine CallX.pure (c1) (by simp) (by simp) ?_; try simp )
    | (refine CallK.intro (c1) (by simp) (by simp) ?_; try simp )
    | (refine CallG.intro (fun _ => c1) (by simp) (by simp) ?_; try simp )
    | ((with_reducible refine PreK.intro ?_ ?_); (next => (first | omega | (intros; first | omega | (refine ⟨by omega, ?_⟩; repeat (first | assumption | constructor)) | assumption))); intro _; try simp )
    | fail)
  refine CondK.ff ?_
  try simp 
  try simp 
  repeat (refine PreK.intro (by first | omega | (intros; first | omega | (refine ⟨by omega, ?_⟩; simp_all; done) | (simp_all; done) | (simp_all; omega))) fun _ => ?_; (try simp ))
  try simp 
  repeat' (first
    | (refine CallX.pure (c2) (by simp) (by simp) ?_; try simp )
    | (refine CallK.intro (c2) (by simp) (by simp) ?_; try simp )
    | (refine CallG.intro (fun _ => c2) (by simp) (by simp) ?_; try simp )
    | ((with_reducible refine PreK.intro ?_ ?_); (next => (first | omega | (intros; first | omega | (refine ⟨by omega, ?_⟩; repeat (first | assumption | constructor)) | assumption))); intro _; try simp )
    | fail)
  refine CondK.ff ?_
  try simp 
  try simp [hk, hk']
  repeat (refine PreK.intro (by first | omega | (intros; first | omega | (refine ⟨by omega, ?_⟩; simp_all; done) | (simp_all; done) | (simp_all; omega))) fun _ => ?_; (try simp [hk, hk']))
  try simp [hk, hk']
  repeat' (first
    | (refine CallX.pure (c3) (by simp) (by simp) ?_; try simp [hk, hk'])
    | (refine CallK.intro (c3) (by simp) (by simp) ?_; try simp [hk, hk'])
    | (refine CallG.intro (fun _ => c3) (by simp) (by simp) ?_; try simp [hk, hk'])
    | ((with_reducible refine PreK.intro ?_ ?_); (next => (first | omega | (intros; first | omega | (refine ⟨by omega, ?_⟩; repeat (first | assumption | constructor)) | assumption))); intro _; try simp [hk, hk'])
    | fail)
  refine CondK.ff ?_
  try simp 
  try simp [hl6, hl6']
  repeat (refine PreK.intro (by first | omega | (intros; first | omega | (refine ⟨by omega, ?_⟩; simp_all; done) | (simp_all; done) | (simp_all; omega))) fun _ => ?_; (try simp [hl6, hl6']))
  refine CondK.ff ?_
  try simp 
  try simp 
  repeat (refine PreK.intro (by first | omega | (intros; first | omega | (refine ⟨by omega, ?_⟩; simp_all; done) | (simp_all; done) | (simp_all; omega))) fun _ => ?_; (try simp ))
  refine LoopK.byR (ι := Nat × Nat) (fun x => ⟨[(10, iv x.1), (9, .sl 9 x.2 0 (spT t k c x.1).length), (0, tabV t), (1, iv (k : Int)), (2, iv (c : Int))], [(9, some ⟨1, (spT t k c x.1).map ints, x.2, true⟩)]⟩) (fun x => t.length - x.1)
    (fun x => x.1 ≤ t.length) (0, 1) (Nat.zero_le _) (by simp [spT, leEls_refl]) ?_
  intro ⟨i, v⟩ Q' hi hq he hr hfz
  dsimp only at hi
  have hE50 := spT_len (c := c) hi hk
  have hrf : ∀ E : List (List Int), AV.refsL (E.map ints) = [] := refsL_ints
  have hfr : ∀ (b : Box) (id : Nat) (E : List (List Int)), frzL b id (E.map ints) = E.map ints := frzL_ints
  by_cases hit : i < t.length
  · have hit' : (i : Int) < t.length := by omega
    have hwl := hs.el i
    by_cases hik : i = k
    · subst hik
      have hst := spT_mid (c := c) hk
      have hq' := hq (i + 1, v + 1)
      simp only [hst] at hq'
      generalize spT t i c i = E at *
      try simp [hit, hit']
      repeat (refine PreK.intro (by first | omega | (intros; first | omega | (refine ⟨by omega, ?_⟩; simp_all; done) | (simp_all; done) | (simp_all; omega))) fun _ => ?_; (try simp [hit, hit']))
      refine CondK.tt ?_
      try simp 
      try simp [hit, hit']
      repeat (refine PreK.intro (by first | omega | (intros; first | omega | (refine ⟨by omega, ?_⟩; simp_all; done) | (simp_all; done) | (simp_all; omega))) fun _ => ?_; (try simp [hit, hit']))
      refine CondK.tt ?_
      try simp 
      try simp [hit, hit', hcl, hcn, hmin]
      repeat (refine PreK.intro (by first | omega | (intros; first | omega | (refine ⟨by omega, ?_⟩; simp_all; done) | (simp_all; done) | (simp_all; omega))) fun _ => ?_; (try simp [hit, hit', hcl, hcn, hmin]))
      refine hfz 51 ⟨1, (List.map iv (el t i)).take c, 1, false⟩ _ (by simp) (by simp) ?_
      simp [frzL_app, hfr, hmin]
      refine hfz 59 ⟨1, (List.map iv (el t i)).drop c, 1, false⟩ _ (by simp) (by simp) ?_
      simp [frzL_app, hfr, hmin]
      refine hq' [] _ (by omega) (by omega) ?_
      simp [hrf, refsL_app, leEls_refl, hmin]
      exact .inl ⟨by rw [List.take_take, Nat.min_self], List.take_of_length_le (by simp)⟩
    · have hik' : ¬ (i : Int) = k := by omega
      have hst := spT_step (c := c) hit hik
      have hq' := hq (i + 1, v + 1)
      simp only [hst] at hq'
      generalize spT t k c i = E at *
      try simp [hit, hit']
      repeat (refine PreK.intro (by first | omega | (intros; first | omega | (refine ⟨by omega, ?_⟩; simp_all; done) | (simp_all; done) | (simp_all; omega))) fun _ => ?_; (try simp [hit, hit']))
      refine CondK.tt ?_
      try simp 
      try simp [hit, hit', hik, hik']
      repeat (refine PreK.intro (by first | omega | (intros; first | omega | (refine ⟨by omega, ?_⟩; simp_all; done) | (simp_all; done) | (simp_all; omega))) fun _ => ?_; (try simp [hit, hit', hik, hik']))
      refine CondK.ff ?_
      try simp 
      try simp [hit, hit']
      repeat (refine PreK.intro (by first | omega | (intros; first | omega | (refine ⟨by omega, ?_⟩; simp_all; done) | (simp_all; done) | (simp_all; omega))) fun _ => ?_; (try simp [hit, hit']))
      refine hfz 68 ⟨1, (List.map iv (el t i)), 1, false⟩ _ (by simp) (by simp) ?_
      simp [frzL_app, hfr]
      refine hq' [] _ (by omega) (by omega) ?_
      simp [hrf, refsL_app, leEls_refl]
  · have hit' : ¬ (i : Int) < t.length := by omega
    have hie : i = t.length := by omega
    subst hie
    rw [spT_all hk]
    try simp [hit']
    repeat (refine PreK.intro (by first | omega | (intros; first | omega | (refine ⟨by omega, ?_⟩; simp_all; done) | (simp_all; done) | (simp_all; omega))) fun _ => ?_; (try simp [hit']))
    refine CondK.ff ?_
    try simp 
    apply he
    try simp 
    repeat (refine PreK.intro (by first | omega | (intros; first | omega | (refine ⟨by omega, ?_⟩; simp_all; done) | (simp_all; done) | (simp_all; omega))) fun _ => ?_; (try simp ))
    refine ⟨[9], ?_⟩
    simp [hrf, hfr]
theorem rSplit_c (t : List (List Int)) (k c : Int) (hs : Sm t) : CallP Tryz.prog 8 [tabV t, iv k, iv c] (.tup [tabV (SplitR t k c).1, iv (SplitR t k c).2]) := by
  by_cases he : (SplitR t k c).2 = 0
  · obtain ⟨hok, n, m, rfl, rfl, hn, hl, h1, h2, e⟩ := SplitR_ok he
    rw [e]
    exact rSplit_m t n m hs hok hn hl h1 h2
  · have hv := rValidate_c t hs
    by_cases h1 : tabErr t = 0
    · have hok := tabErr_zero.1 h1
      have hnum := hok.num
      rw [h1] at hv
      have c2 := within1_c k 0 ((t.length : Int) - 1)
      cases h2 : (decide (0 ≤ k) && decide (k ≤ (t.length : Int) - 1)) with
      | false =>
        have e : SplitR t k c = ([], 4) := by unfold SplitR; rw [if_neg (by simpa using h1), h2, if_pos rfl]
        rw [e]
        rw [h2] at c2
        refine C8 (by simp) ?_
        simp [A8]
        try simp 
        repeat' (first
          | (refine CallX.pure (hv) (by simp) (by simp) ?_; try simp )
          | (refine CallK.intro (hv) (by simp) (by simp) ?_; try simp )
          | (refine CallG.intro (fun _ => hv) (by simp) (by simp) ?_; try simp )
          | ((with_reducible refine PreK.intro ?_ ?_); (next => (first | omega | (intros; first | omega | (refine ⟨by omega, ?_⟩; repeat (first | assumption | constructor)) | assumption))); intro _; try simp )
          | fail)
        refine CondK.ff ?_
        try simp 
        try simp 
        repeat (refine PreK.intro (by first | omega | (intros; first | omega | (refine ⟨by omega, ?_⟩; simp_all; done) | (simp_all; done) | (simp_all; omega))) fun _ => ?_; (try simp ))
        try simp 
        repeat' (first
          | (refine CallX.pure (c2) (by simp) (by simp) ?_; try simp )
          | (refine CallK.intro (c2) (by simp) (by simp) ?_; try simp )
          | (refine CallG.intro (fun _ => c2) (by simp) (by simp) ?_; try simp )
          | ((with_reducible refine PreK.intro ?_ ?_); (next => (first | omega | (intros; first | omega | (refine ⟨by omega, ?_⟩; repeat (first | assumption | constructor)) | assumption))); intro _; try simp )
          | fail)
        refine CondK.tt ?_
        try simp 
        try simp 
        repeat (refine PreK.intro (by first | omega | (intros; first | omega | (refine ⟨by omega, ?_⟩; simp_all; done) | (simp_all; done) | (simp_all; omega))) fun _ => ?_; (try simp ))
      | true =>
        rw [h2] at c2
        simp only [Bool.and_eq_true, decide_eq_true_eq] at h2
        obtain ⟨n, rfl⟩ : ∃ n : Nat, k = (n : Int) := ⟨k.toNat, by omega⟩
        have hn : n < t.length := by omega
        have hn' : (n : Int) < t.length := by omega
        have hln := hs.el n
        have c3 := within1_c c 1 (((el t n).length : Int) - 1)
        cases h3 : (decide (1 ≤ c) && decide (c ≤ ((el t n).length : Int) - 1)) with
        | false =>
          have e : SplitR t n c = ([], 1) := by
            unfold SplitR
            rw [if_neg (by simpa using h1), if_neg (by simp; omega), Int.toNat_natCast, h3, if_pos rfl]
          rw [e]
          rw [h3] at c3
          refine C8 (by simp) ?_
          simp [A8]
          try simp 
          repeat' (first
            | (refine CallX.pure (hv) (by simp) (by simp) ?_; try simp )
            | (refine CallK.intro (hv) (by simp) (by simp) ?_; try simp )
            | (refine CallG.intro (fun _ => hv) (by simp) (by simp) ?_; try simp )
            | ((with_reducible refine PreK.intro ?_ ?_); (next => (first | omega | (intros; first | omega | (refine ⟨by omega, ?_⟩; repeat (first | assumption | constructor)) | assumption))); intro _; try simp )
            | fail)
          refine CondK.ff ?_
          try simp 
          try simp 
          repeat (refine PreK.intro (by first | omega | (intros; first | omega | (refine ⟨by omega, ?_⟩; simp_all; done) | (simp_all; done) | (simp_all; omega))) fun _ => ?_; (try simp ))
          try simp 
          repeat' (first
            | (refine CallX.pure (c2) (by simp) (by simp) ?_; try simp )
            | (refine CallK.intro (c2) (by simp) (by simp) ?_; try simp )
            | (refine CallG.intro (fun _ => c2) (by simp) (by simp) ?_; try simp )
            | ((with_reducible refine PreK.intro ?_ ?_); (next => (first | omega | (intros; first | omega | (refine ⟨by omega, ?_⟩; repeat (first | assumption | constructor)) | assumption))); intro _; try simp )
            | fail)
          refine CondK.ff ?_
          try simp 
          try simp [hn, hn']
          repeat (refine PreK.intro (by first | omega | (intros; first | omega | (refine ⟨by omega, ?_⟩; simp_all; done) | (simp_all; done) | (simp_all; omega))) fun _ => ?_; (try simp [hn, hn']))
          try simp [hn, hn']
          repeat' (first
            | (refine CallX.pure (c3) (by simp) (by simp) ?_; try simp [hn, hn'])
            | (refine CallK.intro (c3) (by simp) (by simp) ?_; try simp [hn, hn'])
            | (refine CallG.intro (fun _ => c3) (by simp) (by simp) ?_; try simp [hn, hn'])
            | ((with_reducible refine PreK.intro ?_ ?_); (next => (first | omega | (intros; first | omega | (refine ⟨by omega, ?_⟩; repeat (first | assumption | constructor)) | assumption))); intro _; try simp [hn, hn'])
            | fail)
          refine CondK.tt ?_
          try simp 
          try simp 
          repeat (refine PreK.intro (by first | omega | (intros; first | omega | (refine ⟨by omega, ?_⟩; simp_all; done) | (simp_all; done) | (simp_all; omega))) fun _ => ?_; (try simp ))
        | true =>
          rw [h3] at c3
          by_cases h4 : t.length = 6
          · have e : SplitR t n c = ([], 3) := by
              unfold SplitR
              rw [if_neg (by simpa using h1), if_neg (by simp; omega), Int.toNat_natCast, h3, if_neg (by decide), if_pos h4]
            rw [e]
            have h4' : (t.length : Int) = 6 := by omega
            refine C8 (by simp) ?_
            simp [A8]
            try simp 
            repeat' (first
              | (refine CallX.pure (hv) (by simp) (by simp) ?_; try simp )
              | (refine CallK.intro (hv) (by simp) (by simp) ?_; try simp )
              | (refine CallG.intro (fun _ => hv) (by simp) (by simp) ?_; try simp )
              | ((with_reducible refine PreK.intro ?_ ?_); (next => (first | omega | (intros; first | omega | (refine ⟨by omega, ?_⟩; repeat (first | assumption | constructor)) | assumption))); intro _; try simp )
              | fail)
            refine CondK.ff ?_
            try simp 
            try simp 
            repeat (refine PreK.intro (by first | omega | (intros; first | omega | (refine ⟨by omega, ?_⟩; simp_all; done) | (simp_all; done) | (simp_all; omega))) fun _ => ?_; (try simp ))
            try simp 
            repeat' (first
              | (refine CallX.pure (c2) (by simp) (by simp) ?_; try simp )
              | (refine CallK.intro (c2) (by simp) (by simp) ?_; try simp )
              | (refine CallG.intro (fun _ => c2) (by simp) (by simp) ?_; try simp )
              | ((with_reducible refine PreK.intro ?_ ?_); (next => (first | omega | (intros; first | omega | (refine ⟨by omega, ?_⟩; repeat (first | assumption | constructor)) | assumption))); intro _; try simp )
              | fail)
            refine CondK.ff ?_
            try simp 
            try simp [hn, hn']
            repeat (refine PreK.intro (by first | omega | (intros; first | omega | (refine ⟨by omega, ?_⟩; simp_all; done) | (simp_all; done) | (simp_all; omega))) fun _ => ?_; (try simp [hn, hn']))
            try simp [hn, hn']
            repeat' (first
              | (refine CallX.pure (c3) (by simp) (by simp) ?_; try simp [hn, hn'])
              | (refine CallK.intro (c3) (by simp) (by simp) ?_; try simp [hn, hn'])
              | (refine CallG.intro (fun _ => c3) (by simp) (by simp) ?_; try simp [hn, hn'])
              | ((with_reducible refine PreK.intro ?_ ?_); (next => (first | omega | (intros; first | omega | (refine ⟨by omega, ?_⟩; repeat (first | assumption | constructor)) | assumption))); intro _; try simp [hn, hn'])
              | fail)
            refine CondK.ff ?_
            try simp 
            try simp [h4, h4']
            repeat (refine PreK.intro (by first | omega | (intros; first | omega | (refine ⟨by omega, ?_⟩; simp_all; done) | (simp_all; done) | (simp_all; omega))) fun _ => ?_; (try simp [h4, h4']))
            refine CondK.tt ?_
            try simp 
            try simp 
            repeat (refine PreK.intro (by first | omega | (intros; first | omega | (refine ⟨by omega, ?_⟩; simp_all; done) | (simp_all; done) | (simp_all; omega))) fun _ => ?_; (try simp ))
          · exfalso
            apply he
            unfold SplitR
            rw [if_neg (by simpa using h1), if_neg (by simp; omega), Int.toNat_natCast, h3, if_neg (by decide), if_neg h4]
    · have e : SplitR t k c = ([], tabErr t) := by unfold SplitR; rw [if_pos h1]
      rw [e]
      refine C8 (by simp) ?_
      simp [A8]
      try simp [h1]
      repeat' (first
        | (refine CallX.pure (hv) (by simp) (by simp) ?_; try simp [h1])
        | (refine CallK.intro (hv) (by simp) (by simp) ?_; try simp [h1])
        | (refine CallG.intro (fun _ => hv) (by simp) (by simp) ?_; try simp [h1])
        | ((with_reducible refine PreK.intro ?_ ?_); (next => (first | omega | (intros; first | omega | (refine ⟨by omega, ?_⟩; repeat (first | assumption | constructor)) | assumption))); intro _; try simp [h1])
        | fail)
      refine CondK.tt ?_
      try simp 
      try simp [h1]
      repeat (refine PreK.intro (by first | omega | (intros; first | omega | (refine ⟨by omega, ?_⟩; simp_all; done) | (simp_all; done) | (simp_all; omega))) fun _ => ?_; (try simp [h1]))
end Go.Proofs.YtphkchjhghdhiaaGreat
end

section
/- Functions of the cut as the value layer reads them. (written by gen.py) -/
set_option maxRecDepth 20000
namespace Go.Proofs.YtphkchjhghdhiaaGreat
open Go.Abs Go

def A5 : ACode :=
  (.seq (.reg [] [⟨some 0, (.assign (.const (.bool false))), 4, none⟩])
    (.seq (.reg [] [⟨some 7, (.buildSlice 32 2 #[(0, (.const (.int .i64 0))), (1, (.const (.int .i64 1)))]), 32, none⟩,
      ⟨some 8, (.buildSlice 32 1 #[(0, (.const (.int .i64 2)))]), 32, none⟩,
      ⟨some 9, (.buildSlice 22 2 #[(0, (.tmp 7)), (1, (.tmp 8))]), 22, none⟩,
      ⟨some 10, (.call ⟨(.value (.func 11)), #[(.tmp 9)], #[22]⟩), 27, none⟩,
      ⟨some 6, (.move (.tmp 10)), 27, none⟩,
      ⟨some 11, (.extract (.tmp 6) 0), 22, none⟩,
      ⟨some 12, (.extract (.tmp 6) 1), 26, none⟩,
      ⟨some 1, (.assign (.tmp 11)), 22, none⟩,
      ⟨some 2, (.assign (.tmp 12)), 26, none⟩])
    (.seq (.reg [] [⟨some 14, (.buildSlice 32 2 #[(0, (.const (.int .i64 0))), (1, (.const (.int .i64 1)))]), 32, none⟩,
      ⟨some 15, (.buildSlice 32 2 #[(0, (.const (.int .i64 1))), (1, (.const (.int .i64 2)))]), 32, none⟩,
      ⟨some 16, (.buildSlice 32 2 #[(0, (.const (.int .i64 0))), (1, (.const (.int .i64 2)))]), 32, none⟩,
      ⟨some 17, (.buildSlice 22 3 #[(0, (.tmp 14)), (1, (.tmp 15)), (2, (.tmp 16))]), 22, none⟩,
      ⟨some 18, (.call ⟨(.value (.func 14)), #[(.const (.int .i64 3)), (.tmp 17)], #[3, 22]⟩), 35, none⟩,
      ⟨some 13, (.move (.tmp 18)), 35, none⟩,
      ⟨some 19, (.extract (.tmp 13) 0), 32, none⟩,
      ⟨some 20, (.extract (.tmp 13) 1), 4, none⟩,
      ⟨some 21, (.extract (.tmp 13) 2), 26, none⟩,
      ⟨some 3, (.assign (.tmp 19)), 32, none⟩,
      ⟨some 4, (.assign (.tmp 20)), 4, none⟩,
      ⟨some 5, (.assign (.tmp 21)), 26, none⟩])
    (.seq (.reg [] [⟨some 22, (.move (.tmp 2)), 26, none⟩,
      ⟨some 23, (.binOp .eql 26 (.tmp 22) (.const (.int .i64 0)) 26), 4, none⟩,
      ⟨some 24, (.move (.tmp 23)), 4, none⟩,
      ⟨some 25, (.move (.tmp 1)), 22, some (24, true)⟩,
      ⟨some 26, (.buildSlice 32 2 #[(0, (.const (.int .i64 0))), (1, (.const (.int .i64 1)))]), 32, some (24, true)⟩,
      ⟨some 27, (.buildSlice 32 3 #[(0, (.const (.int .i64 0))), (1, (.const (.int .i64 1))), (2, (.const (.int .i64 2)))]), 32, some (24, true)⟩,
      ⟨some 28, (.buildSlice 32 1 #[(0, (.const (.int .i64 1)))]), 32, some (24, true)⟩,
      ⟨some 29, (.buildSlice 32 2 #[(0, (.const (.int .i64 1))), (1, (.const (.int .i64 2)))]), 32, some (24, true)⟩,
      ⟨some 30, (.buildSlice 32 1 #[(0, (.const (.int .i64 2)))]), 32, some (24, true)⟩,
      ⟨some 31, (.buildSlice 22 5 #[(0, (.tmp 26)), (1, (.tmp 27)), (2, (.tmp 28)), (3, (.tmp 29)), (4, (.tmp 30))]), 22, some (24, true)⟩,
      ⟨some 32, (.call ⟨(.value (.func 9)), #[(.tmp 25), (.tmp 31)], #[22, 22]⟩), 4, some (24, true)⟩,
      ⟨some 33, (.pick (.tmp 24) (.tmp 32) (.const (.bool false))), 4, none⟩,
      ⟨some 34, (.move (.tmp 33)), 4, none⟩,
      ⟨some 35, (.move (.tmp 5)), 26, some (34, true)⟩,
      ⟨some 36, (.binOp .eql 26 (.tmp 35) (.const (.int .i64 0)) 26), 4, some (34, true)⟩,
      ⟨some 37, (.pick (.tmp 34) (.tmp 36) (.const (.bool false))), 4, none⟩,
      ⟨some 38, (.move (.tmp 37)), 4, none⟩,
      ⟨some 39, (.move (.tmp 4)), 4, some (38, true)⟩,
      ⟨some 40, (.unOp .not 4 (.tmp 39)), 4, some (38, true)⟩,
      ⟨some 41, (.pick (.tmp 38) (.tmp 40) (.const (.bool false))), 4, none⟩,
      ⟨some 0, (.assign (.tmp 41)), 4, none⟩])
    .ret))))
theorem C5 {args : List AV} {r : AV} (hn : args.length ≤ 42) (h : vc Tryz.prog T [] A5 (Fin T [(.tmp 0)] r) ⟨envOf 0 args, []⟩) : CallP Tryz.prog 5 args r :=
  callP_of tok mixed Tryz.func5 (by kernel_rfl) (by kernel_rfl) (by kernel_rfl : Tryz.f5.ntmps = 42) (by kernel_rfl : Tryz.f5.body.bind (strip 42 (fun _ => [])) = some A5) hn h
def A13 : ACode :=
  (.seq (.reg [] [⟨some 2, (.assign (.const (.bool false))), 4, none⟩])
    (.seq (.reg [] [⟨some 3, (.move (.tmp 0)), 32, none⟩,
      ⟨some 4, (.call ⟨(.builtin .len), #[(.tmp 3)], #[32]⟩), 3, none⟩,
      ⟨some 5, (.binOp .gtr 3 (.tmp 4) (.const (.int .i64 100)) 3), 4, none⟩,
      ⟨some 2, (.assign (.tmp 5)), 4, none⟩])
    .ret))
theorem C13 {args : List AV} {r : AV} (hn : args.length ≤ 6) (h : vc Tryz.prog T [] A13 (Fin T [(.tmp 2)] r) ⟨envOf 0 args, []⟩) : CallP Tryz.prog 13 args r :=
  callP_of tok mixed Tryz.func13 (by kernel_rfl) (by kernel_rfl) (by kernel_rfl : Tryz.f13.ntmps = 6) (by kernel_rfl : Tryz.f13.body.bind (strip 6 (fun _ => [])) = some A13) hn h
def A4 : ACode :=
  (.seq (.reg [] [⟨some 2, (.assign (.const (.bool false))), 4, none⟩])
    (.seq (.seq (.reg [] [⟨some 4, (.move (.tmp 0)), 22, none⟩,
      ⟨some 5, (.call ⟨(.builtin .len), #[(.tmp 4)], #[22]⟩), 3, none⟩,
      ⟨some 6, (.binOp .gtr 3 (.tmp 5) (.const (.int .i64 50)) 3), 4, none⟩])
    (.cond (.tmp 6)
    (.seq (.reg [] [⟨some 2, (.assign (.const (.bool true))), 4, none⟩])
    .ret)
    .skip))
    (.seq (.seq (.reg [] [⟨some 3, (.assign (.const (.int .i64 0))), 3, none⟩])
    (.block 0 (.loop (.seq (.seq (.reg [] [⟨some 7, (.move (.tmp 3)), 3, none⟩,
      ⟨some 8, (.move (.tmp 0)), 22, none⟩,
      ⟨some 9, (.call ⟨(.builtin .len), #[(.tmp 8)], #[22]⟩), 3, none⟩,
      ⟨some 10, (.binOp .lss 3 (.tmp 7) (.tmp 9) 3), 4, none⟩])
    (.cond (.tmp 10)
    .skip
    (.exit 0)))
    (.seq (.block 1 (.seq (.reg [] [⟨some 13, (.move (.tmp 0)), 22, none⟩,
      ⟨some 14, (.move (.tmp 3)), 3, none⟩,
      ⟨some 15, (.indexAddr 22 (.tmp 13) (.tmp 14)), 0, none⟩,
      ⟨some 16, (.load 32 (.tmp 15)), 32, none⟩,
      ⟨some 17, (.call ⟨(.value (.func 13)), #[(.tmp 16)], #[32]⟩), 4, none⟩])
    (.cond (.tmp 17)
    (.seq (.reg [] [⟨some 2, (.assign (.const (.bool true))), 4, none⟩])
    .ret)
    .skip)))
    (.reg [] [⟨some 11, (.move (.tmp 3)), 3, none⟩,
      ⟨some 12, (.binOp .add 3 (.tmp 11) (.const (.int .i64 1)) 3), 3, none⟩,
      ⟨some 3, (.assign (.tmp 12)), 3, none⟩]))))))
    (.seq (.reg [] [⟨some 2, (.assign (.const (.bool false))), 4, none⟩])
    .ret))))
theorem C4 {args : List AV} {r : AV} (hn : args.length ≤ 18) (h : vc Tryz.prog T [] A4 (Fin T [(.tmp 2)] r) ⟨envOf 0 args, []⟩) : CallP Tryz.prog 4 args r :=
  callP_of tok mixed Tryz.func4 (by kernel_rfl) (by kernel_rfl) (by kernel_rfl : Tryz.f4.ntmps = 18) (by kernel_rfl : Tryz.f4.body.bind (strip 18 (fun _ => [])) = some A4) hn h
def A12 : ACode :=
  (.seq (.reg [] [⟨some 4, (.assign (.const (.bool false))), 4, none⟩])
    (.seq (.seq (.reg [] [⟨some 5, (.assign (.const (.int .i64 0))), 3, none⟩])
    (.block 0 (.loop (.seq (.seq (.reg [] [⟨some 8, (.move (.tmp 5)), 3, none⟩,
      ⟨some 9, (.move (.tmp 0)), 22, none⟩,
      ⟨some 10, (.call ⟨(.builtin .len), #[(.tmp 9)], #[22]⟩), 3, none⟩,
      ⟨some 11, (.binOp .lss 3 (.tmp 8) (.tmp 10) 3), 4, none⟩])
    (.cond (.tmp 11)
    .skip
    (.exit 0)))
    (.seq (.block 1 (.seq (.reg [] [⟨some 6, (.assign (.const (.bool false))), 4, none⟩])
    (.seq (.seq (.reg [] [⟨some 7, (.assign (.const (.int .i64 0))), 3, none⟩])
    (.block 2 (.loop (.seq (.seq (.reg [] [⟨some 14, (.move (.tmp 7)), 3, none⟩,
      ⟨some 15, (.move (.tmp 1)), 22, none⟩,
      ⟨some 16, (.call ⟨(.builtin .len), #[(.tmp 15)], #[22]⟩), 3, none⟩,
      ⟨some 17, (.binOp .lss 3 (.tmp 14) (.tmp 16) 3), 4, none⟩])
    (.cond (.tmp 17)
    .skip
    (.exit 2)))
    (.seq (.block 3 (.draw [] [⟨some 20, (.move (.tmp 6)), 4, none⟩,
      ⟨some 21, (.move (.tmp 20)), 4, none⟩,
      ⟨some 22, (.move (.tmp 0)), 22, some (21, false)⟩,
      ⟨some 23, (.move (.tmp 5)), 3, some (21, false)⟩,
      ⟨some 24, (.indexAddr 22 (.tmp 22) (.tmp 23)), 0, some (21, false)⟩,
      ⟨some 25, (.load 32 (.tmp 24)), 32, some (21, false)⟩,
      ⟨some 26, (.move (.tmp 1)), 22, some (21, false)⟩,
      ⟨some 27, (.move (.tmp 7)), 3, some (21, false)⟩,
      ⟨some 28, (.indexAddr 22 (.tmp 26) (.tmp 27)), 0, some (21, false)⟩,
      ⟨some 29, (.load 32 (.tmp 28)), 32, some (21, false)⟩,
      ⟨some 30, (.call ⟨(.value (.func 22)), #[(.tmp 25), (.tmp 29)], #[32, 32]⟩), 4, some (21, false)⟩,
      ⟨some 31, (.pick (.tmp 21) (.const (.bool true)) (.tmp 30)), 4, none⟩,
      ⟨some 6, (.assign (.tmp 31)), 4, none⟩] [(2, 3), (2, 6), (3, 6), (4, 6), (5, 6), (2, 7), (3, 7), (4, 7), (5, 7), (6, 7), (2, 8), (3, 8), (4, 8), (5, 8), (2, 9), (3, 9), (4, 9), (5, 9)]))
    (.reg [] [⟨some 18, (.move (.tmp 7)), 3, none⟩,
      ⟨some 19, (.binOp .add 3 (.tmp 18) (.const (.int .i64 1)) 3), 3, none⟩,
      ⟨some 7, (.assign (.tmp 19)), 3, none⟩]))))))
    (.seq (.reg [] [⟨some 32, (.move (.tmp 6)), 4, none⟩,
      ⟨some 33, (.unOp .not 4 (.tmp 32)), 4, none⟩])
    (.cond (.tmp 33)
    (.seq (.reg [] [⟨some 4, (.assign (.const (.bool false))), 4, none⟩])
    .ret)
    .skip)))))
    (.reg [] [⟨some 12, (.move (.tmp 5)), 3, none⟩,
      ⟨some 13, (.binOp .add 3 (.tmp 12) (.const (.int .i64 1)) 3), 3, none⟩,
      ⟨some 5, (.assign (.tmp 13)), 3, none⟩]))))))
    (.seq (.reg [] [⟨some 4, (.assign (.const (.bool true))), 4, none⟩])
    .ret)))
theorem C12 {args : List AV} {r : AV} (hn : args.length ≤ 34) (h : vc Tryz.prog T [] A12 (Fin T [(.tmp 4)] r) ⟨envOf 0 args, []⟩) : CallP Tryz.prog 12 args r :=
  callP_of tok mixed Tryz.func12 (by kernel_rfl) (by kernel_rfl) (by kernel_rfl : Tryz.f12.ntmps = 34) (by kernel_rfl : Tryz.f12.body.bind (strip 34 (fun _ => [])) = some A12) hn h
def A3 : ACode :=
  (.seq (.reg [] [⟨some 6, (.assign (.const (.bool false))), 4, none⟩])
    (.seq (.seq (.reg [] [⟨some 21, (.move (.tmp 0)), 22, none⟩,
      ⟨some 22, (.call ⟨(.value (.func 4)), #[(.tmp 21)], #[22]⟩), 4, none⟩])
    (.cond (.tmp 22)
    (.seq (.reg [] [⟨some 23, (.call ⟨(.value (.func 5)), #[], #[]⟩), 4, none⟩,
      ⟨some 6, (.assign (.tmp 23)), 4, none⟩])
    .ret)
    .skip))
    (.seq (.reg [] [⟨some 24, (.move (.tmp 0)), 22, none⟩,
      ⟨some 25, (.call ⟨(.value (.func 6)), #[(.tmp 24)], #[22]⟩), 22, none⟩,
      ⟨some 7, (.assign (.tmp 25)), 22, none⟩])
    (.seq (.reg [] [⟨some 27, (.move (.tmp 7)), 22, none⟩,
      ⟨some 28, (.move (.tmp 1)), 3, none⟩,
      ⟨some 29, (.move (.tmp 2)), 3, none⟩,
      ⟨some 30, (.call ⟨(.value (.func 7)), #[(.tmp 27), (.tmp 28), (.tmp 29)], #[22, 3, 3]⟩), 27, none⟩,
      ⟨some 26, (.move (.tmp 30)), 27, none⟩,
      ⟨some 31, (.extract (.tmp 26) 0), 22, none⟩,
      ⟨some 32, (.extract (.tmp 26) 1), 26, none⟩,
      ⟨some 8, (.assign (.tmp 31)), 22, none⟩,
      ⟨some 9, (.assign (.tmp 32)), 26, none⟩])
    (.seq (.reg [] [⟨some 34, (.move (.tmp 0)), 22, none⟩,
      ⟨some 35, (.move (.tmp 1)), 3, none⟩,
      ⟨some 36, (.move (.tmp 2)), 3, none⟩,
      ⟨some 37, (.call ⟨(.value (.func 8)), #[(.tmp 34), (.tmp 35), (.tmp 36)], #[22, 3, 3]⟩), 27, none⟩,
      ⟨some 33, (.move (.tmp 37)), 27, none⟩,
      ⟨some 38, (.extract (.tmp 33) 0), 22, none⟩,
      ⟨some 39, (.extract (.tmp 33) 1), 26, none⟩,
      ⟨some 10, (.assign (.tmp 38)), 22, none⟩,
      ⟨some 11, (.assign (.tmp 39)), 26, none⟩])
    (.seq (.seq (.reg [] [⟨some 40, (.move (.tmp 8)), 22, none⟩,
      ⟨some 41, (.move (.tmp 10)), 22, none⟩,
      ⟨some 42, (.call ⟨(.value (.func 9)), #[(.tmp 40), (.tmp 41)], #[22, 22]⟩), 4, none⟩,
      ⟨some 43, (.unOp .not 4 (.tmp 42)), 4, none⟩,
      ⟨some 44, (.move (.tmp 43)), 4, none⟩,
      ⟨some 45, (.move (.tmp 9)), 26, some (44, false)⟩,
      ⟨some 46, (.move (.tmp 11)), 26, some (44, false)⟩,
      ⟨some 47, (.binOp .neq 26 (.tmp 45) (.tmp 46) 26), 4, some (44, false)⟩,
      ⟨some 48, (.pick (.tmp 44) (.const (.bool true)) (.tmp 47)), 4, none⟩])
    (.cond (.tmp 48)
    (.seq (.reg [] [⟨some 6, (.assign (.const (.bool false))), 4, none⟩])
    .ret)
    .skip))
    (.seq (.seq (.reg [] [⟨some 49, (.move (.tmp 9)), 26, none⟩,
      ⟨some 50, (.binOp .neq 26 (.tmp 49) (.const (.int .i64 0)) 26), 4, none⟩])
    (.cond (.tmp 50)
    (.seq (.reg [] [⟨some 51, (.call ⟨(.value (.func 5)), #[], #[]⟩), 4, none⟩,
      ⟨some 6, (.assign (.tmp 51)), 4, none⟩])
    .ret)
    .skip))
    (.seq (.reg [] [⟨some 53, (.move (.tmp 8)), 22, none⟩,
      ⟨some 54, (.move (.tmp 1)), 3, none⟩,
      ⟨some 55, (.call ⟨(.value (.func 10)), #[(.tmp 53), (.tmp 54)], #[22, 3]⟩), 27, none⟩,
      ⟨some 52, (.move (.tmp 55)), 27, none⟩,
      ⟨some 56, (.extract (.tmp 52) 0), 22, none⟩,
      ⟨some 57, (.extract (.tmp 52) 1), 26, none⟩,
      ⟨some 12, (.assign (.tmp 56)), 22, none⟩,
      ⟨some 13, (.assign (.tmp 57)), 26, none⟩])
    (.seq (.reg [] [⟨some 59, (.move (.tmp 0)), 22, none⟩,
      ⟨some 60, (.call ⟨(.value (.func 11)), #[(.tmp 59)], #[22]⟩), 27, none⟩,
      ⟨some 58, (.move (.tmp 60)), 27, none⟩,
      ⟨some 61, (.extract (.tmp 58) 0), 22, none⟩,
      ⟨some 62, (.extract (.tmp 58) 1), 26, none⟩,
      ⟨some 14, (.assign (.tmp 61)), 22, none⟩,
      ⟨some 15, (.assign (.tmp 62)), 26, none⟩])
    (.seq (.reg [] [⟨some 64, (.move (.tmp 8)), 22, none⟩,
      ⟨some 65, (.call ⟨(.value (.func 11)), #[(.tmp 64)], #[22]⟩), 27, none⟩,
      ⟨some 63, (.move (.tmp 65)), 27, none⟩,
      ⟨some 66, (.extract (.tmp 63) 0), 22, none⟩,
      ⟨some 67, (.extract (.tmp 63) 1), 26, none⟩,
      ⟨some 16, (.assign (.tmp 66)), 22, none⟩,
      ⟨some 17, (.assign (.tmp 67)), 26, none⟩])
    (.seq (.reg [] [⟨some 68, (.move (.tmp 13)), 26, none⟩,
      ⟨some 69, (.binOp .eql 26 (.tmp 68) (.const (.int .i64 0)) 26), 4, none⟩,
      ⟨some 70, (.move (.tmp 69)), 4, none⟩,
      ⟨some 71, (.move (.tmp 12)), 22, some (70, true)⟩,
      ⟨some 72, (.move (.tmp 0)), 22, some (70, true)⟩,
      ⟨some 73, (.call ⟨(.value (.func 9)), #[(.tmp 71), (.tmp 72)], #[22, 22]⟩), 4, some (70, true)⟩,
      ⟨some 74, (.pick (.tmp 70) (.tmp 73) (.const (.bool false))), 4, none⟩,
      ⟨some 75, (.move (.tmp 74)), 4, none⟩,
      ⟨some 76, (.move (.tmp 15)), 26, some (75, true)⟩,
      ⟨some 77, (.binOp .eql 26 (.tmp 76) (.const (.int .i64 0)) 26), 4, some (75, true)⟩,
      ⟨some 78, (.pick (.tmp 75) (.tmp 77) (.const (.bool false))), 4, none⟩,
      ⟨some 79, (.move (.tmp 78)), 4, none⟩,
      ⟨some 80, (.move (.tmp 17)), 26, some (79, true)⟩,
      ⟨some 81, (.binOp .eql 26 (.tmp 80) (.const (.int .i64 0)) 26), 4, some (79, true)⟩,
      ⟨some 82, (.pick (.tmp 79) (.tmp 81) (.const (.bool false))), 4, none⟩,
      ⟨some 83, (.move (.tmp 82)), 4, none⟩,
      ⟨some 84, (.move (.tmp 14)), 22, some (83, true)⟩,
      ⟨some 85, (.move (.tmp 16)), 22, some (83, true)⟩,
      ⟨some 86, (.call ⟨(.value (.func 12)), #[(.tmp 84), (.tmp 85)], #[22, 22]⟩), 4, some (83, true)⟩,
      ⟨some 87, (.pick (.tmp 83) (.tmp 86) (.const (.bool false))), 4, none⟩,
      ⟨some 18, (.assign (.tmp 87)), 4, none⟩])
    (.seq (.seq (.reg [] [⟨some 19, (.assign (.const (.int .i64 0))), 3, none⟩])
    (.block 0 (.loop (.seq (.seq (.reg [] [⟨some 88, (.move (.tmp 19)), 3, none⟩,
      ⟨some 89, (.move (.tmp 8)), 22, none⟩,
      ⟨some 90, (.call ⟨(.builtin .len), #[(.tmp 89)], #[22]⟩), 3, none⟩,
      ⟨some 91, (.binOp .lss 3 (.tmp 88) (.tmp 90) 3), 4, none⟩])
    (.cond (.tmp 91)
    .skip
    (.exit 0)))
    (.seq (.block 1 (.seq (.reg [] [⟨some 20, (.assign (.const (.int .i64 0))), 3, none⟩])
    (.block 2 (.loop (.seq (.seq (.reg [] [⟨some 94, (.move (.tmp 20)), 3, none⟩,
      ⟨some 95, (.move (.tmp 8)), 22, none⟩,
      ⟨some 96, (.move (.tmp 19)), 3, none⟩,
      ⟨some 97, (.indexAddr 22 (.tmp 95) (.tmp 96)), 0, none⟩,
      ⟨some 98, (.load 32 (.tmp 97)), 32, none⟩,
      ⟨some 99, (.call ⟨(.builtin .len), #[(.tmp 98)], #[32]⟩), 3, none⟩,
      ⟨some 100, (.binOp .lss 3 (.tmp 94) (.tmp 99) 3), 4, none⟩])
    (.cond (.tmp 100)
    .skip
    (.exit 2)))
    (.seq (.block 3 (.reg [] [⟨some 103, (.move (.tmp 8)), 22, none⟩,
      ⟨some 104, (.move (.tmp 19)), 3, none⟩,
      ⟨some 105, (.indexAddr 22 (.tmp 103) (.tmp 104)), 0, none⟩,
      ⟨some 106, (.load 32 (.tmp 105)), 32, none⟩,
      ⟨some 107, (.move (.tmp 20)), 3, none⟩,
      ⟨some 108, (.indexAddr 32 (.tmp 106) (.tmp 107)), 0, none⟩,
      ⟨none, (.store 3 (.tmp 108) (.const (.int .i64 (-1)))), 0, none⟩]))
    (.reg [] [⟨some 101, (.move (.tmp 20)), 3, none⟩,
      ⟨some 102, (.binOp .add 3 (.tmp 101) (.const (.int .i64 1)) 3), 3, none⟩,
      ⟨some 20, (.assign (.tmp 102)), 3, none⟩])))))))
    (.reg [] [⟨some 92, (.move (.tmp 19)), 3, none⟩,
      ⟨some 93, (.binOp .add 3 (.tmp 92) (.const (.int .i64 1)) 3), 3, none⟩,
      ⟨some 19, (.assign (.tmp 93)), 3, none⟩]))))))
    (.seq (.reg [] [⟨some 109, (.move (.tmp 18)), 4, none⟩,
      ⟨some 110, (.move (.tmp 109)), 4, none⟩,
      ⟨some 111, (.move (.tmp 7)), 22, some (110, true)⟩,
      ⟨some 112, (.move (.tmp 0)), 22, some (110, true)⟩,
      ⟨some 113, (.call ⟨(.value (.func 9)), #[(.tmp 111), (.tmp 112)], #[22, 22]⟩), 4, some (110, true)⟩,
      ⟨some 114, (.pick (.tmp 110) (.tmp 113) (.const (.bool false))), 4, none⟩,
      ⟨some 115, (.move (.tmp 114)), 4, none⟩,
      ⟨some 116, (.call ⟨(.value (.func 5)), #[], #[]⟩), 4, some (115, true)⟩,
      ⟨some 117, (.pick (.tmp 115) (.tmp 116) (.const (.bool false))), 4, none⟩,
      ⟨some 6, (.assign (.tmp 117)), 4, none⟩])
    .ret)))))))))))))
theorem C3 {args : List AV} {r : AV} (hn : args.length ≤ 118) (h : vc Tryz.prog T [] A3 (Fin T [(.tmp 6)] r) ⟨envOf 0 args, []⟩) : CallP Tryz.prog 3 args r :=
  callP_of tok mixed Tryz.func3 (by kernel_rfl) (by kernel_rfl) (by kernel_rfl : Tryz.f3.ntmps = 118) (by kernel_rfl : Tryz.f3.body.bind (strip 118 (fun _ => [])) = some A3) hn h

end Go.Proofs.YtphkchjhghdhiaaGreat
end

section
/- Contracts: where sets end in an order; marks. -/
namespace Go.Proofs.YtphkchjhghdhiaaGreat
open Go.Abs Go
set_option maxRecDepth 20000
set_option maxHeartbeats 2000000
attribute [local irreducible] PreK CondK CallK CallG CallX LoopK
attribute [local simp] avsEq avEq akind teq vkind vEq

theorem pos_bnd (o : List Int) (s : Int) : -1 ≤ posO o s ∧ posO o s < o.length := by
  unfold posO
  by_cases h : s ∈ o
  · obtain ⟨a, b, rfl, ha⟩ := split_at h
    rw [idxF_at a b 0 ha]
    simp only [List.length_append, List.length_cons]
    omega
  · rw [idxF_none o 0 h]
    omega
theorem CT28 {args : List AV} {sz : Nat} {els : List AV} {u : Value} (hn : args.length ≤ 51) (hu : u.oneCell' = true) (h : vc Tryz.prog T [] A28 (FinT [(.tmp 4), (.tmp 5)] sz els u) ⟨envOf 0 args, []⟩) : CallT Tryz.prog 28 args sz els u :=
  callT_of tok mixed Tryz.func28 (by kernel_rfl) (by kernel_rfl) (by kernel_rfl : Tryz.f28.ntmps = 51) (by kernel_rfl : Tryz.f28.body.bind (strip 51 (fun _ => [])) = some A28) hn hu h
theorem CallT.toP {P : Program} {f : FuncId} {args : List AV} {sz : Nat} {els : List AV} {u : Value} (h : CallT P f args sz els u) : CallP P f args (.tup [.seq sz els false, .raw u]) := by
  refine ⟨h.1, fun w X vs hX hlen hargs => Calls.mono (h.2.2 w X vs hX hlen hargs) ?_⟩
  rintro e w' ⟨v, rfl, hg, ho⟩
  have hseq : Rep w' X Mu.none (.seq sz els false) v := by
    rcases ho with ⟨rfl, p, rfl⟩ | ⟨g, base, cap, c, el, rfl, _, hge, hw, hcap, hfit, hbig, h1, hr⟩
    · exact .nil
    · have hx : ¬ X g := fun hx => by have := hX g hx; omega
      have hm : els.length * sz ≤ cap * sz := Nat.mul_le_mul_right _ hcap
      refine .seq hx hw hcap (fun h => by cases h) hbig (by omega) (fun i hi => (hr i hi).1) (fun j _ hj => h1 j (by omega)) fun i hi => ?_
      exact (hr i hi).2.mono (fun q hq _ => ⟨fun hy => hq (.inl hy), rfl⟩) (Mu.later.refl _)
  refine ⟨_, rfl, hg, .tup rfl fun i hi => ?_⟩
  match i, hi with
  | 0, _ => exact hseq
  | 1, _ => exact .raw h.2.1
theorem ends_t (f : List (List Int)) (o : List Int) (hf : Sm f) (ho : o.length ≤ 100) : CallT Tryz.prog 28 [tabV f, ints o] 1 ((if fitsM o f then lastsM o f else []).map iv) (.bool (fitsM o f)) := by
  refine CT28 (by simp) rfl ?_
  have hn := hf.num
  generalize hF : fitsM o f = F
  generalize hL : lastsM o f = L
  simp [A28]
  refine LoopK.by (ι := Nat × Nat × List Int) (fun x => ⟨[(16, iv x.1), (15, iv f.length), (14, tabV f), (6, .sl 6 x.2.1 0 x.2.2.length), (1, ints o)], [(6, some ⟨1, x.2.2.map iv, x.2.1, false⟩)]⟩) (fun x => f.length - x.1)
    (fun x => x.1 ≤ f.length ∧ x.2.2.length = x.1 ∧ x.2.2 ++ lastsM o (f.drop x.1) = L ∧ fitsM o (f.drop x.1) = F) (0, 1, []) ⟨Nat.zero_le _, rfl, by simpa using hL, by simpa using hF⟩ (by simp) ?_
  intro ⟨i, ver, acc⟩ Q' ⟨hi, hal, hc, hc2⟩ hq he hr
  dsimp only at hi hal hc hc2
  try simp 
  refine CondK.intro (fun h1 => ?_) (fun h1 => ?_)
  · simp at h1
    have hel := hf.el i
    rw [drop_cons f i h1] at hc hc2
    rw [show fitsM o (el f i :: f.drop (i + 1)) = (fit1 o (el f i) && fitsM o (f.drop (i + 1))) from rfl] at hc2
    rw [show lastsM o (el f i :: f.drop (i + 1)) = (edges o (el f i)).2 :: lastsM o (f.drop (i + 1)) from rfl] at hc
    unfold fit1 at hc2
    have hE : flP o (el f i) (o.length, -1) = edges o (el f i) := rfl
    generalize edges o (el f i) = E at hc hc2 hE
    try simp [h1]
    repeat (refine PreK.intro (by first | omega | (intros; first | omega | (refine ⟨by omega, ?_⟩; simp_all; done) | (simp_all; done) | (simp_all; omega))) fun _ => ?_; (try simp [h1]))
    refine LoopK.by (ι := Nat × Int × Int) (fun x => ⟨[(24, iv x.1), (23, iv (el f i).length), (22, ints (el f i)), (9, iv x.2.1), (10, iv x.2.2), (8, ints (el f i)), (16, iv i), (15, iv f.length), (14, tabV f), (6, .sl 6 ver 0 acc.length), (1, ints o)], [(6, some ⟨1, acc.map iv, ver, false⟩)]⟩) (fun x => (el f i).length - x.1)
      (fun x => x.1 ≤ (el f i).length ∧ (-1 ≤ x.2.1 ∧ x.2.1 ≤ 100) ∧ (-1 ≤ x.2.2 ∧ x.2.2 ≤ 100) ∧ flP o ((el f i).drop x.1) (x.2.1, x.2.2) = E) (0, (o.length : Int), -1) ⟨Nat.zero_le _, by dsimp only; omega, by dsimp only; omega, by simpa using hE⟩ (by simp) ?_
    intro ⟨k, a, b⟩ Q2 ⟨hk, ha, hb, hc3⟩ hq2 he2 hr2
    dsimp only at hk ha hb hc3
    try simp 
    refine CondK.intro (fun h2 => ?_) (fun h2 => ?_)
    · simp at h2
      have hix := index_c o (el (el f i) k) (sbig (by omega))
      have hpb := pos_bnd o (el (el f i) k)
      rw [drop_cons (el f i) k h2, flP] at hc3
      dsimp only at hc3
      rw [show idxF (fun x => decide (el (el f i) k = x)) 0 o = posO o (el (el f i) k) from rfl] at hix
      generalize posO o (el (el f i) k) = p at hix hpb hc3
      try simp [h2]
      repeat (refine PreK.intro (by first | omega | (intros; first | omega | (refine ⟨by omega, ?_⟩; simp_all; done) | (simp_all; done) | (simp_all; omega))) fun _ => ?_; (try simp [h2]))
      try simp [h2]
      repeat' (first
        | (refine CallX.pure (hix) (by simp) (by simp) ?_; try simp [h2])
        | (refine CallK.intro (hix) (by simp) (by simp) ?_; try simp [h2])
        | (refine CallG.intro (fun _ => hix) (by simp) (by simp) ?_; try simp [h2])
        | ((with_reducible refine PreK.intro ?_ ?_); (next => (first | omega | (intros; first | omega | (refine ⟨by omega, ?_⟩; repeat (first | assumption | constructor)) | assumption))); intro _; try simp [h2])
        | fail)
      repeat (refine PreK.intro (by first | omega | (intros; first | omega | (refine ⟨by omega, ?_⟩; simp_all; done) | (simp_all; done) | (simp_all; omega))) fun _ => ?_; (try simp ))
      have e1 : min a p = if p < a then p else a := by split <;> omega
      have e2 : max b p = if b < p then p else b := by split <;> omega
      rw [e1, e2] at hc3
      exact hq2 (k + 1, (if p < a then p else a), (if b < p then p else b)) _ ⟨by dsimp only; omega, by dsimp only; split <;> omega, by dsimp only; split <;> omega, hc3⟩ (by dsimp only; omega) (by simp)
    · simp at h2
      rw [List.drop_eq_nil_of_le (by omega), flP] at hc3
      subst hc3
      dsimp only at hc hc2
      try simp 
      apply he2
      repeat (refine PreK.intro (by first | omega | (intros; first | omega | (refine ⟨by omega, ?_⟩; simp_all; done) | (simp_all; done) | (simp_all; omega))) fun _ => ?_; (try simp ))
      refine CondK.intro (fun h3 => ?_) (fun h3 => ?_)
      · simp at h3
        have : F = false := by rw [← hc2]; simp [h3]
        subst this
        try simp 
        apply hr
        try simp 
        repeat (refine PreK.intro (by first | omega | (intros; first | omega | (refine ⟨by omega, ?_⟩; simp_all; done) | (simp_all; done) | (simp_all; omega))) fun _ => ?_; (try simp ))
      · simp at h3
        have : fitsM o (f.drop (i + 1)) = F := by rw [← hc2]; simp [h3]
        repeat (refine PreK.intro (by first | omega | (intros; first | omega | (refine ⟨by omega, ?_⟩; simp_all; done) | (simp_all; done) | (simp_all; omega))) fun _ => ?_; (try simp ))
        exact hq (i + 1, ver + 1, acc ++ [b]) _ ⟨by dsimp only; omega, by simp; omega, by simpa using hc, this⟩ (by dsimp only; omega) (by simp)
  · simp at h1
    rw [List.drop_eq_nil_of_le (by omega)] at hc hc2
    have h3 : F = true := by rw [← hc2]; rfl
    simp only [lastsM, List.map_nil, List.append_nil] at hc
    subst hc h3
    try simp 
    apply he
    try simp 
    repeat (refine PreK.intro (by first | omega | (intros; first | omega | (refine ⟨by omega, ?_⟩; simp_all; done) | (simp_all; done) | (simp_all; omega))) fun _ => ?_; (try simp ))
theorem ends_c (f : List (List Int)) (o : List Int) (hf : Sm f) (ho : o.length ≤ 100) : CallP Tryz.prog 28 [tabV f, ints o] (.tup [ints (if fitsM o f then lastsM o f else []), bv (fitsM o f)]) := CallT.toP (ends_t f o hf ho)
end Go.Proofs.YtphkchjhghdhiaaGreat
end

section
/- Contracts: the orders told one by one; the first order that a family fits, and the best one. -/
namespace Go.Proofs.YtphkchjhghdhiaaGreat
open Go.Abs Go
set_option maxRecDepth 20000
set_option maxHeartbeats 2000000
attribute [local irreducible] PreK CondK CallK CallG CallX LoopK
attribute [local simp] avsEq avEq akind teq vkind vEq nilOK nilArg nilOf

@[simp] theorem vcOps_nilEqG {P : Program} {T : TT} {O : List Nat} {s : St} {d : Option Nat} {t t' ty : Nat} {x : Operand} {g : Nat × Bool} {l : List AOper} {K : St → Prop} :
    vcOps P T O (⟨d, .binOp .eql t x (.const (.slice none 0 0)) t', ty, some g⟩ :: l) K s = vcOp P T O ⟨d, .binOp .eql t x (.const (.slice none 0 0)) t', ty, some g⟩ s (vcOps P T O l K) := Eq.trans rfl rfl
/-- A variable that is nil or a list that is not empty. -/
def slV (o : List Int) : AV := if o = [] then .raw (.slice none 0 0) else ints o
theorem slV_nil : slV [] = .raw (.slice none 0 0) := rfl
theorem slV_ne {o : List Int} (h : o ≠ []) : slV o = .seq 1 (o.map iv) false := by simp [slV, h]
theorem slV_cases (o : List Int) : slV o = .raw (.slice none 0 0) ∨ slV o = .seq 1 (o.map iv) false := by
  unfold slV; split
  · exact .inl rfl
  · exact .inr rfl
@[simp] theorem refs_slV (o : List Int) : AV.refs (slV o) = [] := by
  rcases slV_cases o with h | h <;> rw [h] <;> rfl
@[simp] theorem renA_slV (f : Nat → Nat → Option (Nat × Nat)) (o : List Int) : renA f (slV o) = slV o := by
  rcases slV_cases o with h | h <;> rw [h] <;> rfl
@[simp] theorem frzA_slV (x : Box) (id : Nat) (o : List Int) : frzA x id (slV o) = slV o := by
  rcases slV_cases o with h | h <;> rw [h] <;> rfl
@[simp] theorem leE_slV (o : List Int) : leE (slV o) (slV o) = True := by
  simp only [leE_refl]
def oP : List AV := [.pt 101 0 0 0, .pt 102 0 0 0]
def oM (f : List (List Int)) (s : List Int) : List (Nat × Option Box) := [(101, some ⟨1, [tabV f], 0, true⟩), (102, some ⟨1, [slV s], 0, true⟩)]
theorem fam_sm {n : Nat} {f : List (List Int)} (h : FamOK n f) : Sm f := by
  have h1 := h.hi
  refine ⟨by have := h.num; omega, fun r hr => ?_⟩
  have := nodup_le (pairwise_lt_nodup (h.up r hr)) fun x hx => mem_ids.2 (h.val r hr x hx)
  rw [ids_len] at this
  omega
theorem ord_ne {n : Nat} {o : List Int} (h0 : 1 ≤ n) (h : OrdOK n o) : o ≠ [] := fun e => by
  have := h.len
  subst e
  simp at this
  omega
theorem order1_b (f : List (List Int)) (n : Nat) (hf : FamOK n f) (s o : List Int) (ho : OrdOK n o) : CallB Tryz.prog 27 (ints o :: oP) (oM f s) (bv (stepO f s o).2) (oM f (stepO f s o).1) := by
  have hec := ends_c f o (fam_sm hf) (by have := ho.len; have := hf.hi; omega)
  have hne := ord_ne hf.lo ho
  refine CB27 (by simp [oP]) (by simp [oM]) ?_
  unfold stepO
  generalize fitsM o f = F at *
  cases F with
  | true =>
    simp only [if_true, hne, decide_false] at hec ⊢
    simp only [oM, slV_ne hne]
    rcases slV_cases s with es | es
    all_goals
      simp only [es]
      simp [A27, oP]
      try simp 
      repeat' (first
        | (refine CallX.pure (hec) (by simp) (by simp) ?_; try simp )
        | (refine CallK.intro (hec) (by simp) (by simp) ?_; try simp )
        | (refine CallG.intro (fun _ => hec) (by simp) (by simp) ?_; try simp )
        | ((with_reducible refine PreK.intro ?_ ?_); (next => (first | omega | (intros; first | omega | (refine ⟨by omega, ?_⟩; repeat (first | assumption | constructor)) | assumption))); intro _; try simp )
        | fail)
      refine CondK.tt ?_
      try simp 
      repeat (refine PreK.intro (by first | omega | (intros; first | omega | (refine ⟨by omega, ?_⟩; simp_all; done) | (simp_all; done) | (simp_all; omega))) fun _ => ?_; (try simp ))
      intro b hb
      have : b = false := by
        cases b with
        | false => rfl
        | true => simp at hb; exact absurd hb hne
      subst this
      repeat (refine PreK.intro (by first | omega | (intros; first | omega | (refine ⟨by omega, ?_⟩; simp_all; done) | (simp_all; done) | (simp_all; omega))) fun _ => ?_; (try simp ))
  | false =>
    simp only [Bool.false_eq_true, if_false] at hec ⊢
    by_cases hs : s = []
    · subst hs
      simp only [oM, slV_nil]
      simp [A27, oP]
      try simp 
      repeat' (first
        | (refine CallX.pure (hec) (by simp) (by simp) ?_; try simp )
        | (refine CallK.intro (hec) (by simp) (by simp) ?_; try simp )
        | (refine CallG.intro (fun _ => hec) (by simp) (by simp) ?_; try simp )
        | ((with_reducible refine PreK.intro ?_ ?_); (next => (first | omega | (intros; first | omega | (refine ⟨by omega, ?_⟩; repeat (first | assumption | constructor)) | assumption))); intro _; try simp )
        | fail)
      refine CondK.ff ?_
      try simp 
      repeat (refine PreK.intro (by first | omega | (intros; first | omega | (refine ⟨by omega, ?_⟩; simp_all; done) | (simp_all; done) | (simp_all; omega))) fun _ => ?_; (try simp ))
      intro b hb
      simp at hb
      subst hb
      repeat (refine PreK.intro (by first | omega | (intros; first | omega | (refine ⟨by omega, ?_⟩; simp_all; done) | (simp_all; done) | (simp_all; omega))) fun _ => ?_; (try simp ))
    · simp only [oM, slV_ne hs]
      simp [A27, oP]
      try simp 
      repeat' (first
        | (refine CallX.pure (hec) (by simp) (by simp) ?_; try simp )
        | (refine CallK.intro (hec) (by simp) (by simp) ?_; try simp )
        | (refine CallG.intro (fun _ => hec) (by simp) (by simp) ?_; try simp )
        | ((with_reducible refine PreK.intro ?_ ?_); (next => (first | omega | (intros; first | omega | (refine ⟨by omega, ?_⟩; repeat (first | assumption | constructor)) | assumption))); intro _; try simp )
        | fail)
      refine CondK.ff ?_
      try simp 
      repeat (refine PreK.intro (by first | omega | (intros; first | omega | (refine ⟨by omega, ?_⟩; simp_all; done) | (simp_all; done) | (simp_all; omega))) fun _ => ?_; (try simp ))
      intro b hb
      have : b = false := by
        cases b with
        | false => rfl
        | true => simp at hb; exact absurd hb hs
      subst this
      simp [hs]

/-- What comes of a beginning by the sounds from i on. -/
def restF (n m : Nat) (b : List Int) (i : Nat) : List (List Int) := ((((idsN n).drop i).filter fun s => !b.contains s).map fun s => b ++ [s]).flatMap (ordF n m)
theorem restF_zero (n m : Nat) (b : List Int) : restF n m b 0 = ordF n (m + 1) b := by simp [restF, ordF, kidsO]
theorem restF_in {n m : Nat} {b : List Int} {i : Nat} (h : i < n) (hc : b.contains (i : Int) = true) : restF n m b i = restF n m b (i + 1) := by
  unfold restF
  rw [drop_cons _ i (by rw [ids_len]; exact h), el_ids h, List.filter_cons_of_neg (by simp only [hc]; simp)]
theorem restF_out {n m : Nat} {b : List Int} {i : Nat} (h : i < n) (hc : b.contains (i : Int) = false) : restF n m b i = ordF n m (b ++ [(i : Int)]) ++ restF n m b (i + 1) := by
  unfold restF
  rw [drop_cons _ i (by rw [ids_len]; exact h), el_ids h, List.filter_cons_of_pos (by simp only [hc]; simp), List.map_cons, List.flatMap_cons]
theorem restF_end {n m : Nat} {b : List Int} {i : Nat} (h : n ≤ i) : restF n m b i = [] := by
  unfold restF
  rw [List.drop_eq_nil_of_le (by rw [ids_len]; exact h)]
  rfl
theorem runT_one {σ : Type} (step : σ → List Int → σ × Bool) (s : σ) (o : List Int) : runT step s [o] = step s o := by
  rw [runT, runT]
  by_cases h : (step s o).2 = true
  · rw [if_pos h]; exact Prod.ext rfl h.symm
  · rw [if_neg h]; exact Prod.ext rfl (by simpa using h)
def anyI (_ : List Int) : Prop := True
theorem anyI_run (f : List (List Int)) (l : List (List Int)) (s : List Int) (_ : anyI s) : anyI (runT (stepO f) s l).1 := trivial
theorem orders1_b (f : List (List Int)) (n : Nat) (hf : FamOK n f) : ∀ (m : Nat) (b : List Int) (s : List Int), anyI s → b.Nodup → (∀ x ∈ b, 0 ≤ x ∧ x < n) → b.length + m = n →
    CallB Tryz.prog 26 [iv n, ints b, .fn 27 [] oP] (oM f s) (bv (runT (stepO f) s (ordF n m b)).2) (oM f (runT (stepO f) s (ordF n m b)).1)
  | 0, b, s, hs, h1, h2, h3 => by
    have ho : OrdOK n b := ordOK_of_perm (perm_of_sub h1 (fun x hx => mem_ids.2 (h2 x hx)) (by rw [ids_len]; omega)).symm
    have hd := order1_b f n hf s b ho
    have eR : runT (stepO f) s (ordF n 0 b) = stepO f s b := runT_one _ _ _
    rw [eR]
    generalize stepO f s b = R at hd
    obtain ⟨s2, r⟩ := R
    dsimp only at hd ⊢
    have hbl : (b.length : Int) = n := by omega
    refine CB26 (by simp [oP]) (by simp [oM]) ?_
    simp only [oM, oP] at hd
    simp [A26, oP, oM, hbl]
    refine CondK.tt ?_
    try simp 
    repeat (refine PreK.intro (by first | omega | (intros; first | omega | (refine ⟨by omega, ?_⟩; simp_all; done) | (simp_all; done) | (simp_all; omega))) fun _ => ?_; (try simp ))
    refine CallX.boxes [(101, 0, 101), (102, 0, 102)] (by simp) (by simpa using hd) ?_
    repeat (refine PreK.intro (by first | omega | (intros; first | omega | (refine ⟨by omega, ?_⟩; simp_all; done) | (simp_all; done) | (simp_all; omega))) fun _ => ?_; (try simp ))
  | m + 1, b, s, hs, h1, h2, h3 => by
    have hhi := hf.hi
    have hbl : ¬ (b.length : Int) = n := by omega
    refine CB26 (by simp [oP]) (by simp [oM]) ?_
    rw [← restF_zero]
    generalize hR : runT (stepO f) s (restF n m b 0) = R
    simp [A26, oP, oM, hbl]
    refine CondK.ff ?_
    try simp 
    repeat (refine PreK.intro (by first | omega | (intros; first | omega | (refine ⟨by omega, ?_⟩; simp_all; done) | (simp_all; done) | (simp_all; omega))) fun _ => ?_; (try simp ))
    refine LoopK.by (ι := Nat × List Int) (fun x => ⟨[(16, iv x.1), (15, iv n), (0, iv n), (1, ints b), (2, .fn 27 [] oP)], oM f x.2⟩) (fun x => n - x.1) (fun x => x.1 ≤ n ∧ anyI x.2 ∧ runT (stepO f) x.2 (restF n m b x.1) = R) (0, s) ⟨Nat.zero_le _, hs, hR⟩ (by simp [oM, oP]) ?_
    intro ⟨i, s1⟩ Q' ⟨hi, hs1, hc⟩ hq he hr
    dsimp only at hi hs1 hc
    simp only [oM, oP]
    try simp 
    refine CondK.intro (fun h4 => ?_) (fun h4 => ?_)
    · simp at h4
      have hcn := contains_c b i (sbig (by omega))
      rw [any_contains] at hcn
      have hin := anyI_run f (ordF n m (b ++ [(i : Int)])) s1 hs1
      have hrec := orders1_b f n hf m (b ++ [(i : Int)]) s1 hs1
      have hout := restF_out (n := n) (m := m) (b := b) h4
      have hinn := restF_in (n := n) (m := m) (b := b) h4
      have hmem : b.contains (i : Int) = false → (i : Int) ∉ b := fun h hm => by rw [List.contains_iff_mem.2 hm] at h; cases h
      have hclo := clone_o b (by omega)
      generalize b.contains (i : Int) = cb at *
      try simp 
      repeat' (first
        | (refine CallX.pure (hcn) (by simp) (by simp) ?_; try simp )
        | (refine CallK.intro (hcn) (by simp) (by simp) ?_; try simp )
        | (refine CallG.intro (fun _ => hcn) (by simp) (by simp) ?_; try simp )
        | ((with_reducible refine PreK.intro ?_ ?_); (next => (first | omega | (intros; first | omega | (refine ⟨by omega, ?_⟩; repeat (first | assumption | constructor)) | assumption))); intro _; try simp )
        | fail)
      cases cb with
      | true =>
        rw [hinn rfl] at hc
        try simp 
        repeat (refine PreK.intro (by first | omega | (intros; first | omega | (refine ⟨by omega, ?_⟩; simp_all; done) | (simp_all; done) | (simp_all; omega))) fun _ => ?_; (try simp ))
        refine CallG.intro (r := (.seq 1 [] false)) (fun hh => by cases hh) (by simp) (by simp) ?_
        try simp 
        try simp 
        repeat (refine PreK.intro (by first | omega | (intros; first | omega | (refine ⟨by omega, ?_⟩; simp_all; done) | (simp_all; done) | (simp_all; omega))) fun _ => ?_; (try simp ))
        refine CallG.intro (r := (bv true)) (fun hh => by cases hh) (by simp) (by simp) ?_
        try simp 
        try simp 
        repeat (refine PreK.intro (by first | omega | (intros; first | omega | (refine ⟨by omega, ?_⟩; simp_all; done) | (simp_all; done) | (simp_all; omega))) fun _ => ?_; (try simp ))
        refine CondK.ff ?_
        try simp 
        repeat (refine PreK.intro (by first | omega | (intros; first | omega | (refine ⟨by omega, ?_⟩; simp_all; done) | (simp_all; done) | (simp_all; omega))) fun _ => ?_; (try simp ))
        exact hq (i + 1, s1) _ ⟨by dsimp only; omega, hs1, hc⟩ (by dsimp only; omega) (by simp [oM, oP])
      | false =>
        rw [hout rfl, runT_append] at hc
        have hni := hmem rfl
        have hd := hrec (by rw [List.nodup_append]; exact ⟨h1, by simp, fun x hx y hy e => by simp only [List.mem_singleton] at hy; subst hy; subst e; exact hni hx⟩) (fun x hx => by
          rcases List.mem_append.1 hx with hx | hx
          · exact h2 x hx
          · simp only [List.mem_singleton] at hx; subst hx; omega) (by simp; omega)
        generalize runT (stepO f) s1 (ordF n m (b ++ [(i : Int)])) = R1 at hd hc hin
        obtain ⟨s2, r⟩ := R1
        dsimp only at hd hc hin
        simp only [oM, oP] at hd
        try simp 
        repeat (refine PreK.intro (by first | omega | (intros; first | omega | (refine ⟨by omega, ?_⟩; simp_all; done) | (simp_all; done) | (simp_all; omega))) fun _ => ?_; (try simp ))
        refine CallG.made ?_
        refine CallX.own (by simpa using hclo) (by simp) (by simp) ?_
        try simp 
        repeat (refine PreK.intro (by first | omega | (intros; first | omega | (refine ⟨by omega, ?_⟩; simp_all; done) | (simp_all; done) | (simp_all; omega))) fun _ => ?_; (try simp ))
        refine CallG.made ?_
        refine CallX.frz 26 (b := ⟨1, b.map iv ++ [iv i], 2, false⟩) (by simp) (by simp) ?_
        refine CallX.boxes [(101, 0, 101), (102, 0, 102)] (by simp) (by simpa [take_map_one] using hd) ?_
        try simp 
        repeat (refine PreK.intro (by first | omega | (intros; first | omega | (refine ⟨by omega, ?_⟩; simp_all; done) | (simp_all; done) | (simp_all; omega))) fun _ => ?_; (try simp ))
        cases r with
        | true =>
          simp only [if_true] at hc
          try simp 
          repeat (refine PreK.intro (by first | omega | (intros; first | omega | (refine ⟨by omega, ?_⟩; simp_all; done) | (simp_all; done) | (simp_all; omega))) fun _ => ?_; (try simp ))
          refine CondK.ff ?_
          try simp 
          repeat (refine PreK.intro (by first | omega | (intros; first | omega | (refine ⟨by omega, ?_⟩; simp_all; done) | (simp_all; done) | (simp_all; omega))) fun _ => ?_; (try simp ))
          exact hq (i + 1, s2) _ ⟨by dsimp only; omega, hin, hc⟩ (by dsimp only; omega) (by simp [oM, oP])
        | false =>
          simp only [Bool.false_eq_true, if_false] at hc
          subst hc
          try simp 
          repeat (refine PreK.intro (by first | omega | (intros; first | omega | (refine ⟨by omega, ?_⟩; simp_all; done) | (simp_all; done) | (simp_all; omega))) fun _ => ?_; (try simp ))
          refine CondK.tt ?_
          try simp 
          repeat (refine PreK.intro (by first | omega | (intros; first | omega | (refine ⟨by omega, ?_⟩; simp_all; done) | (simp_all; done) | (simp_all; omega))) fun _ => ?_; (try simp ))
          apply hr
          try simp 
          repeat (refine PreK.intro (by first | omega | (intros; first | omega | (refine ⟨by omega, ?_⟩; simp_all; done) | (simp_all; done) | (simp_all; omega))) fun _ => ?_; (try simp ))
    · simp at h4
      rw [restF_end h4, runT] at hc
      subst hc
      try simp 
      apply he
      repeat (refine PreK.intro (by first | omega | (intros; first | omega | (refine ⟨by omega, ?_⟩; simp_all; done) | (simp_all; done) | (simp_all; omega))) fun _ => ?_; (try simp ))

end Go.Proofs.YtphkchjhghdhiaaGreat
end

section
/- Contracts: for what a name stands; all names and classes of a table. -/
namespace Go.Proofs.YtphkchjhghdhiaaGreat
open Go.Abs Go
set_option maxRecDepth 20000
set_option maxHeartbeats 2000000
attribute [local irreducible] PreK CondK CallK CallG CallX LoopK
attribute [local simp] avsEq avEq akind teq vkind vEq

@[simp] def namesV (l : List (Int × Int)) : AV := .seq 2 (l.map pairV) false
instance : Inhabited (Int × Int) := ⟨(0, 0)⟩
@[simp] theorem nth_pair (l : List (Int × Int)) (k : Nat) (h : k < l.length) : nth (l.map pairV) k = pairV (el l k) := nth_map pairV l k h
theorem clone_k (k : Bool) (l : List Int) (hl : l.length ≤ 1000) : CallO Tryz.prog 19 [.seq 1 (l.map iv) k] 1 (l.map iv) := by
  refine CO19 (by simp) ?_
  simp [A19, nilOK, nilArg, nilOf]
  intro b hb
  refine CondK.intro (fun h => ?_) (fun h => ?_)
  · simp at h
    have h2 := hb h
    simp at h2
    subst h2
    simp
  · simp
    refine PreK.intro (by omega) fun _ => ?_
    simp
theorem stand_c (t : Tab) (h : TabOK t) (s r : Int) : CallP Tryz.prog 42 [lineV t, pairV (s, r)] (.tup [ints (standE t s r).1, bv (standE t s r).2]) := by
  refine C42 (by simp) ?_
  have hl := h.len
  have hrl := rowsF_len t 0
  have hlast := rowsF_last h
  have hix := index_c t.flatten s (sbig (by omega))
  unfold lineV
  have hp1 : 1 ≤ t.flatten.length := Nat.le_trans (endN_pos h 0) (endN_le t 0)
  by_cases hm : s ∈ t.flatten
  · obtain ⟨a, b, hab, ha⟩ := split_at hm
    have hidx : idxF (fun x => decide (s = x)) 0 t.flatten = (a.length : Int) := by rw [hab, idxF_at a b 0 ha]; simp
    rw [hidx] at hix
    have hal : a.length < t.flatten.length := by rw [hab]; simp
    have hrow := rows_at hab ha
    have hrb := row_lt t hm
    by_cases h1 : r < rowI s 0 t
    · have e1 : standE t s r = ([], false) := by
        have : isName t s r = false := by
          cases hb : isName t s r with
          | false => rfl
          | true => have := isName_row.1 hb; omega
        simp [standE, this]
      rw [e1]
      generalize t.flatten = L at *
      generalize rowsF 0 t = R at *
      have e2 : ((L.length : Int) - 1).toNat = L.length - 1 := by omega
      have e3 : L.length - 1 < L.length := by omega
      simp [A42]
      try simp 
      repeat' (first
        | (refine CallX.pure (hix) (by simp) (by simp) ?_; try simp )
        | (refine CallK.intro (hix) (by simp) (by simp) ?_; try simp )
        | (refine CallG.intro (fun _ => hix) (by simp) (by simp) ?_; try simp )
        | ((with_reducible refine PreK.intro ?_ ?_); (next => (first | omega | (intros; first | omega | (refine ⟨by omega, ?_⟩; repeat (first | assumption | constructor)) | assumption))); intro _; try simp )
        | fail)
      try simp [hal, hrl, hrow, h1, e2, e3]
      repeat (refine PreK.intro (by first | omega | (intros; first | omega | (refine ⟨by omega, ?_⟩; simp_all; done) | (simp_all; done) | (simp_all; omega))) fun _ => ?_; (try simp [hal, hrl, hrow, h1, e2, e3]))
      refine CondK.tt ?_
      try simp 
      repeat (refine PreK.intro (by first | omega | (intros; first | omega | (refine ⟨by omega, ?_⟩; simp_all; done) | (simp_all; done) | (simp_all; omega))) fun _ => ?_; (try simp ))
    · by_cases h2 : (t.length : Int) - 1 < r
      · have e1 : standE t s r = ([], false) := by
          have : isName t s r = false := by
            cases hb : isName t s r with
            | false => rfl
            | true => have := isName_row.1 hb; omega
          simp [standE, this]
        rw [e1]
        generalize t.flatten = L at *
        generalize rowsF 0 t = R at *
        have e2 : ((L.length : Int) - 1).toNat = L.length - 1 := by omega
        have e3 : L.length - 1 < L.length := by omega
        rw [hrl] at hlast
        simp [A42]
        try simp 
        repeat' (first
          | (refine CallX.pure (hix) (by simp) (by simp) ?_; try simp )
          | (refine CallK.intro (hix) (by simp) (by simp) ?_; try simp )
          | (refine CallG.intro (fun _ => hix) (by simp) (by simp) ?_; try simp )
          | ((with_reducible refine PreK.intro ?_ ?_); (next => (first | omega | (intros; first | omega | (refine ⟨by omega, ?_⟩; repeat (first | assumption | constructor)) | assumption))); intro _; try simp )
          | fail)
        try simp [hal, hrl, hrow, h1, h2, hlast, e2, e3]
        repeat (refine PreK.intro (by first | omega | (intros; first | omega | (refine ⟨by omega, ?_⟩; simp_all; done) | (simp_all; done) | (simp_all; omega))) fun _ => ?_; (try simp [hal, hrl, hrow, h1, h2, hlast, e2, e3]))
        refine CondK.tt ?_
        try simp 
        repeat (refine PreK.intro (by first | omega | (intros; first | omega | (refine ⟨by omega, ?_⟩; simp_all; done) | (simp_all; done) | (simp_all; omega))) fun _ => ?_; (try simp ))
      · have hnm : isName t s r = true := isName_row.2 ⟨hm, by omega, by omega⟩
        obtain ⟨hr0, hrt, hsp⟩ := name_of hnm
        obtain ⟨q, rfl⟩ : ∃ q : Nat, r = (q : Int) := ⟨r.toNat, by omega⟩
        simp only [Int.toNat_natCast] at hrt hsp
        have e1 : standE t s (q : Int) = (standM t s q, true) := by simp [standE, hnm]
        rw [e1]
        have hen := endN_le t q
        have hae : a.length < endN t q := by
          have := (rowsF_le t 0 a.length q (by omega)).1 (by rw [hrow]; omega)
          exact this
        have hle : ∀ e, e < t.flatten.length → (el (rowsF 0 t) e ≤ (q : Int) ↔ e < endN t q) := fun e he => by
          have := rowsF_le t 0 e q (by omega)
          rw [show ((0 + q : Nat) : Int) = (q : Int) by omega] at this
          exact this
        have hseg : (t.flatten.take (endN t q)).drop a.length = segM t s q := by
          rw [pre_take]
          unfold segM
          obtain ⟨a', b', h3, h4, _, h6, h7⟩ := name_split h hsp
          have haa : a = a' := by
            have h8 := hab.symm.trans h3
            have : a.length = a'.length := el_inj h.nd hal (by rw [h3]; simp) (by
              rw [show el t.flatten a.length = s by rw [hab, el_append_right (Nat.le_refl _)]; simp [el], show el t.flatten a'.length = s by rw [h3, el_append_right (Nat.le_refl _)]; simp [el]])
            exact (List.append_inj h8 this).1
          rw [← haa] at h6
          rw [h6, dropWhile_at _ _ ha, List.drop_left' rfl]
        unfold standM
        have hs1 := sortI_L (segM t s q)
        have hSG := sortI_len (segM t s q)
        generalize sortI (segM t s q) = S at hs1 hSG ⊢
        generalize segM t s q = G at *
        generalize t.flatten = L at *
        generalize rowsF 0 t = R at *
        generalize hE : endN t q = E at *
        have e2 : ((L.length : Int) - 1).toNat = L.length - 1 := by omega
        have e3 : L.length - 1 < L.length := by omega
        rw [hrl] at hlast
        have e4 : ¬ (q : Int) < rowI s 0 t := by omega
        have e5 : ¬ (t.length : Int) - 1 < (q : Int) := by omega
        simp [A42]
        try simp 
        repeat' (first
          | (refine CallX.pure (hix) (by simp) (by simp) ?_; try simp )
          | (refine CallK.intro (hix) (by simp) (by simp) ?_; try simp )
          | (refine CallG.intro (fun _ => hix) (by simp) (by simp) ?_; try simp )
          | ((with_reducible refine PreK.intro ?_ ?_); (next => (first | omega | (intros; first | omega | (refine ⟨by omega, ?_⟩; repeat (first | assumption | constructor)) | assumption))); intro _; try simp )
          | fail)
        try simp [hal, hrl, hrow, e4, e5, hlast, e2, e3]
        repeat (refine PreK.intro (by first | omega | (intros; first | omega | (refine ⟨by omega, ?_⟩; simp_all; done) | (simp_all; done) | (simp_all; omega))) fun _ => ?_; (try simp [hal, hrl, hrow, e4, e5, hlast, e2, e3]))
        refine CondK.ff ?_
        try simp 
        repeat (refine PreK.intro (by first | omega | (intros; first | omega | (refine ⟨by omega, ?_⟩; simp_all; done) | (simp_all; done) | (simp_all; omega))) fun _ => ?_; (try simp ))
        refine LoopK.by (ι := Nat) (fun e => ⟨[(7, iv e), (6, iv a.length), (2, .pt 2 1 0 0), (3, .pt 3 1 0 0)], [(2, some ⟨2, [.agg [ints L, ints R]], 1, true⟩), (3, some ⟨2, [.agg [iv s, iv q]], 1, true⟩)]⟩) (fun e => E - e) (fun e => a.length ≤ e ∧ e ≤ E) a.length ⟨Nat.le_refl _, by omega⟩ (by simp) ?_
        intro e Q' ⟨h3, h4⟩ hq he hr
        by_cases h5 : e < L.length
        · have h6 := hle e h5
          by_cases h7 : e < E
          · have h8 := h6.2 h7
            try simp [h5, hrl, h8]
            repeat (refine PreK.intro (by first | omega | (intros; first | omega | (refine ⟨by omega, ?_⟩; simp_all; done) | (simp_all; done) | (simp_all; omega))) fun _ => ?_; (try simp [h5, hrl, h8]))
            refine CondK.tt ?_
            try simp 
            repeat (refine PreK.intro (by first | omega | (intros; first | omega | (refine ⟨by omega, ?_⟩; simp_all; done) | (simp_all; done) | (simp_all; omega))) fun _ => ?_; (try simp ))
            exact hq (e + 1) _ ⟨by omega, by omega⟩ (by omega) (by simp)
          · have h8 : ¬ el R e ≤ (q : Int) := fun h9 => h7 (h6.1 h9)
            have h9 : e = E := by omega
            subst h9
            try simp [h5, hrl, h8]
            repeat (refine PreK.intro (by first | omega | (intros; first | omega | (refine ⟨by omega, ?_⟩; simp_all; done) | (simp_all; done) | (simp_all; omega))) fun _ => ?_; (try simp [h5, hrl, h8]))
            refine CondK.ff ?_
            try simp 
            repeat (refine PreK.intro (by first | omega | (intros; first | omega | (refine ⟨by omega, ?_⟩; simp_all; done) | (simp_all; done) | (simp_all; omega))) fun _ => ?_; (try simp ))
            apply he
            have hgl : G.length = e - a.length := by rw [← hseg]; simp; omega
            repeat (refine PreK.intro (by first | omega | (intros; first | omega | (refine ⟨by omega, ?_⟩; simp_all; done) | (simp_all; done) | (simp_all; omega))) fun _ => ?_; (try simp [hen, hae]))
            have hgd : List.drop a.length (List.take e (List.map iv L)) = List.map iv G := by rw [← hseg]; simp [List.map_drop, List.map_take]
            have hgm : min e L.length - a.length = G.length := by omega
            refine CallX.own (by simpa [hgd] using clone_k false G (by omega)) (by simp) (by simp) ?_
            try simp [hgm]
            refine CallX.lend [] (id := 63) (ver := 1) (n := G.length) (b := ⟨1, G.map iv, 1, false⟩) [] (.val (.tup [])) _ (by simp [hgm]) (by simp) (by simp) (by simp) (by simp) (by simp) (by simp) (by simpa using hs1) ?_
            repeat (refine PreK.intro (by first | omega | (intros; first | omega | (refine ⟨by omega, ?_⟩; simp_all; done) | (simp_all; done) | (simp_all; omega))) fun _ => ?_; (try simp [hgm, hSG]))
            simp [← hSG]
        · have h9 : e = E := by omega
          subst h9
          have hgl : G.length = e - a.length := by rw [← hseg]; simp; omega
          have hnj : nth (R.map iv) e = .junk := nth_ge iv R (by omega)
          try simp [h5, hrl, hnj]
          repeat (refine PreK.intro (by first | omega | (intros; first | omega | (refine ⟨by omega, ?_⟩; simp_all; done) | (simp_all; done) | (simp_all; omega))) fun _ => ?_; (try simp [h5, hrl, hnj]))
          refine CondK.ff ?_
          try simp 
          repeat (refine PreK.intro (by first | omega | (intros; first | omega | (refine ⟨by omega, ?_⟩; simp_all; done) | (simp_all; done) | (simp_all; omega))) fun _ => ?_; (try simp ))
          apply he
          repeat (refine PreK.intro (by first | omega | (intros; first | omega | (refine ⟨by omega, ?_⟩; simp_all; done) | (simp_all; done) | (simp_all; omega))) fun _ => ?_; (try simp [hen, hae]))
          have hgd : List.drop a.length (List.take e (List.map iv L)) = List.map iv G := by rw [← hseg]; simp [List.map_drop, List.map_take]
          have hgm : min e L.length - a.length = G.length := by omega
          refine CallX.own (by simpa [hgd] using clone_k false G (by omega)) (by simp) (by simp) ?_
          try simp [hgm]
          refine CallX.lend [] (id := 63) (ver := 1) (n := G.length) (b := ⟨1, G.map iv, 1, false⟩) [] (.val (.tup [])) _ (by simp [hgm]) (by simp) (by simp) (by simp) (by simp) (by simp) (by simp) (by simpa using hs1) ?_
          repeat (refine PreK.intro (by first | omega | (intros; first | omega | (refine ⟨by omega, ?_⟩; simp_all; done) | (simp_all; done) | (simp_all; omega))) fun _ => ?_; (try simp [hgm, hSG]))
          simp [← hSG]
  · have hidx := idxF_none t.flatten 0 hm
    rw [hidx] at hix
    have e1 : standE t s r = ([], false) := by
      have : isName t s r = false := by
        cases hb : isName t s r with
        | false => rfl
        | true => exact absurd (isName_row.1 hb).1 hm
      simp [standE, this]
    rw [e1]
    generalize t.flatten = L at *
    generalize rowsF 0 t = R at *
    have e2 : ((L.length : Int) - 1).toNat = L.length - 1 := by omega
    have e3 : L.length - 1 < L.length := by omega
    have e0 : 0 < L.length := by omega
    simp [A42]
    try simp 
    repeat' (first
      | (refine CallX.pure (hix) (by simp) (by simp) ?_; try simp )
      | (refine CallK.intro (hix) (by simp) (by simp) ?_; try simp )
      | (refine CallG.intro (fun _ => hix) (by simp) (by simp) ?_; try simp )
      | ((with_reducible refine PreK.intro ?_ ?_); (next => (first | omega | (intros; first | omega | (refine ⟨by omega, ?_⟩; repeat (first | assumption | constructor)) | assumption))); intro _; try simp )
      | fail)
    try simp [hrl, e0, e2, e3]
    repeat (refine PreK.intro (by first | omega | (intros; first | omega | (refine ⟨by omega, ?_⟩; simp_all; done) | (simp_all; done) | (simp_all; omega))) fun _ => ?_; (try simp [hrl, e0, e2, e3]))
    refine CondK.tt ?_
    try simp 
    repeat (refine PreK.intro (by first | omega | (intros; first | omega | (refine ⟨by omega, ?_⟩; simp_all; done) | (simp_all; done) | (simp_all; omega))) fun _ => ?_; (try simp ))
theorem names_o (t : Tab) (h : TabOK t) : CallO Tryz.prog 41 [tabV t] 2 ((namesM t).map pairV) := by
  refine CO41 (by simp) ?_
  have hlo := lineOf_c t h
  have hl := h.len
  have hn := h.num
  have hrl := rowsF_len t 0
  have hge := fun e he => rowsF_ge t 0 e he
  have hnn := names_num h
  have hsn := sort_names h
  have hpl := (names_perm h).length_eq
  have hs1 := sortN_L (allM t)
  rw [hsn] at hs1
  unfold lineV at hlo
  generalize hA : allM t = A at hs1 hpl
  unfold allM at hA
  generalize namesM t = N at *
  generalize t.flatten = L at *
  generalize rowsF 0 t = R at *
  simp [A41]
  try simp 
  repeat' (first
    | (refine CallX.pure (hlo) (by simp) (by simp) ?_; try simp )
    | (refine CallK.intro (hlo) (by simp) (by simp) ?_; try simp )
    | (refine CallG.intro (fun _ => hlo) (by simp) (by simp) ?_; try simp )
    | ((with_reducible refine PreK.intro ?_ ?_); (next => (first | omega | (intros; first | omega | (refine ⟨by omega, ?_⟩; repeat (first | assumption | constructor)) | assumption))); intro _; try simp )
    | fail)
  repeat (refine PreK.intro (by first | omega | (intros; first | omega | (refine ⟨by omega, ?_⟩; simp_all; done) | (simp_all; done) | (simp_all; omega))) fun _ => ?_; (try simp ))
  refine LoopK.by (ι := Nat × Nat × List (Int × Int)) (fun x => ⟨[(16, iv x.1), (15, iv L.length), (14, ints L), (4, .sl 4 x.2.1 0 x.2.2.length), (3, .pt 3 1 0 0), (0, tabV t)], [(4, some ⟨2, x.2.2.map pairV, x.2.1, false⟩), (3, some ⟨2, [.agg [ints L, ints R]], 1, true⟩)]⟩) (fun x => L.length - x.1)
    (fun x => x.1 ≤ L.length ∧ x.2.2 ++ allF t.length (L.drop x.1) (R.drop x.1) = A) (0, 1, []) ⟨Nat.zero_le _, by simpa using hA⟩ (by simp) ?_
  intro ⟨i, ver, acc⟩ Q' ⟨hi, hc⟩ hq he hr
  dsimp only at hi hc
  try simp 
  refine CondK.intro (fun h1 => ?_) (fun h1 => ?_)
  · simp at h1
    have h1' : i < R.length := by omega
    obtain ⟨g1, g2⟩ := hge i h1'
    obtain ⟨k, hk⟩ : ∃ k : Nat, el R i = (k : Int) := ⟨(el R i).toNat, by omega⟩
    rw [drop_cons L i h1, drop_cons R i h1', allF, hk, Int.toNat_natCast] at hc
    try simp [h1, h1', hk]
    repeat (refine PreK.intro (by first | omega | (intros; first | omega | (refine ⟨by omega, ?_⟩; simp_all; done) | (simp_all; done) | (simp_all; omega))) fun _ => ?_; (try simp [h1, h1', hk]))
    refine LoopK.by (ι := Nat × Nat × List (Int × Int)) (fun x => ⟨[(7, iv x.1), (6, iv (el L i)), (16, iv i), (15, iv L.length), (14, ints L), (4, .sl 4 x.2.1 0 x.2.2.length), (3, .pt 3 1 0 0), (0, tabV t)], [(4, some ⟨2, x.2.2.map pairV, x.2.1, false⟩), (3, some ⟨2, [.agg [ints L, ints R]], 1, true⟩)]⟩) (fun x => t.length - x.1)
      (fun x => x.1 ≤ t.length ∧ x.2.2 ++ (rangeP (el L i) x.1 t.length ++ allF t.length (L.drop (i + 1)) (R.drop (i + 1))) = A) (k, ver, acc) ⟨by dsimp only; omega, hc⟩ (by simp) ?_
    intro ⟨k, v2, ac2⟩ Q2 ⟨hk2, hc2⟩ hq2 he2 hr2
    dsimp only at hk2 hc2
    have hlen := congrArg List.length hc2
    simp only [List.length_append] at hlen
    try simp 
    refine CondK.intro (fun h2 => ?_) (fun h2 => ?_)
    · simp at h2
      have e1 : rangeP (el L i) k t.length = (el L i, (k : Int)) :: rangeP (el L i) (k + 1) t.length := by
        unfold rangeP
        rw [show t.length - k = (t.length - (k + 1)) + 1 by omega, List.range'_succ]
        rfl
      rw [e1, List.cons_append] at hc2
      repeat (refine PreK.intro (by first | omega | (intros; first | omega | (refine ⟨by omega, ?_⟩; simp_all; done) | (simp_all; done) | (simp_all; omega))) fun _ => ?_; (try simp ))
      exact hq2 (k + 1, v2 + 1, ac2 ++ [(el L i, (k : Int))]) _ ⟨by dsimp only; omega, by simpa using hc2⟩ (by dsimp only; omega) (by simp)
    · simp at h2
      have e1 : rangeP (el L i) k t.length = [] := by
        unfold rangeP
        rw [show t.length - k = 0 by omega]
        rfl
      rw [e1, List.nil_append] at hc2
      try simp 
      apply he2
      repeat (refine PreK.intro (by first | omega | (intros; first | omega | (refine ⟨by omega, ?_⟩; simp_all; done) | (simp_all; done) | (simp_all; omega))) fun _ => ?_; (try simp ))
      exact hq (i + 1, v2, ac2) _ ⟨by dsimp only; omega, hc2⟩ (by dsimp only; omega) (by simp)
  · simp at h1
    rw [List.drop_eq_nil_of_le (by omega)] at hc
    simp only [allF, List.append_nil] at hc
    subst hc
    try simp 
    apply he
    try simp 
    refine CallX.lend [] (id := 4) (ver := ver) (n := acc.length) (b := ⟨2, acc.map pairV, ver, false⟩) [.fn 56 [] []] (.val (.tup [])) _ (by simp) (by simp) (by simp) (by simp) (by simp) (by simp) (by simp) (by simpa using hs1) ?_
    try simp 
    clear hq he hr
    refine LoopK.by (ι := Nat × Nat × List (Int × Int)) (fun x => ⟨[(43, iv x.1), (42, iv acc.length), (41, .sl 4 ver 0 acc.length), (8, .sl 8 x.2.1 0 x.2.2.length)], [(8, some ⟨2, x.2.2.map pairV, x.2.1, false⟩), (4, some ⟨2, N.map pairV, ver, false⟩)]⟩) (fun x => N.length - x.1)
      (fun x => x.1 ≤ N.length ∧ x.2.2 ++ N.drop x.1 = N) (0, 1, []) ⟨Nat.zero_le _, by simp⟩ (by simp) ?_
    intro ⟨j, v2, ac2⟩ Q2 ⟨hj, hc2⟩ hq2 he2 hr2
    dsimp only at hj hc2
    have hlen := congrArg List.length hc2
    simp only [List.length_append] at hlen
    try simp 
    refine CondK.intro (fun h2 => ?_) (fun h2 => ?_)
    · simp at h2
      have h2' : j < N.length := by omega
      rw [drop_cons N j h2'] at hc2
      repeat (refine PreK.intro (by first | omega | (intros; first | omega | (refine ⟨by omega, ?_⟩; simp_all; done) | (simp_all; done) | (simp_all; omega))) fun _ => ?_; (try simp [h2', h2]))
      exact hq2 (j + 1, v2 + 1, ac2 ++ [el N j]) _ ⟨by dsimp only; omega, by simpa using hc2⟩ (by dsimp only; omega) (by simp)
    · simp at h2
      rw [List.drop_eq_nil_of_le (by omega), List.append_nil] at hc2
      subst hc2
      try simp 
      apply he2
      repeat (refine PreK.intro (by first | omega | (intros; first | omega | (refine ⟨by omega, ?_⟩; simp_all; done) | (simp_all; done) | (simp_all; omega))) fun _ => ?_; (try simp ))
theorem names_c (t : Tab) (h : TabOK t) : CallP Tryz.prog 41 [tabV t] (namesV (namesM t)) := (names_o t h).toP
theorem classes_c (t : Tab) (h : TabOK t) : CallP Tryz.prog 24 [tabV t] (tabV (classesM t)) := by
  refine C24 (by simp) ?_
  have hlo := lineOf_c t h
  have hnc := names_c t h
  have hnn := names_num h
  have hst := fun s r => stand_c t h s r
  have hin : ∀ x ∈ namesM t, standE t x.1 x.2 = (standM t x.1 x.2.toNat, true) ∧ (standM t x.1 x.2.toNat).length ≤ 6 := by
    intro x hx
    have h1 := (mem_namesM h).1 hx
    refine ⟨by simp [standE, h1], ?_⟩
    obtain ⟨_, h2, h3⟩ := name_of h1
    exact six_len ((sortI_perm _).nodup_iff.2 (seg_nd h _ _)) fun y hy => seg_val h (mem_sortI.1 hy)
  unfold classesM
  generalize hS : setsM t = S
  have hSl : S.length ≤ 36 := by rw [← hS, setsM, List.length_map]; exact hnn
  have hSw : ∀ w ∈ S, w.length ≤ 6 := by
    intro w hw
    rw [← hS, setsM] at hw
    obtain ⟨x, hx, rfl⟩ := List.mem_map.1 hw
    exact (hin x hx).2
  unfold setsM at hS
  have hs1 := sortW_L S
  have hs2 := compact_L (sortW S) (by rw [sortW_len]; omega) (fun w hw => by have := hSw w ((sortW_perm S).mem_iff.1 hw); omega)
  have hsl := sortW_len S
  unfold uniq
  have hnum : (compW (sortW S)).length ≤ S.length := by
    rw [← hsl]
    cases sortW S with
    | nil => simp [compW]
    | cons x m => simp only [compW, List.length_cons]; have := compF_num x m; omega
  generalize sortW S = so at hs1 hs2 hsl hnum ⊢
  generalize compW so = U at hs2 hnum ⊢
  unfold lineV at hlo hst
  generalize namesM t = N at *
  generalize t.flatten = L at *
  generalize rowsF 0 t = R at *
  simp [A24]
  try simp 
  repeat' (first
    | (refine CallX.pure (hlo) (by simp) (by simp) ?_; try simp )
    | (refine CallK.intro (hlo) (by simp) (by simp) ?_; try simp )
    | (refine CallG.intro (fun _ => hlo) (by simp) (by simp) ?_; try simp )
    | ((with_reducible refine PreK.intro ?_ ?_); (next => (first | omega | (intros; first | omega | (refine ⟨by omega, ?_⟩; repeat (first | assumption | constructor)) | assumption))); intro _; try simp )
    | fail)
  repeat (refine PreK.intro (by first | omega | (intros; first | omega | (refine ⟨by omega, ?_⟩; simp_all; done) | (simp_all; done) | (simp_all; omega))) fun _ => ?_; (try simp ))
  try simp 
  repeat' (first
    | (refine CallX.pure (hnc) (by simp) (by simp) ?_; try simp )
    | (refine CallK.intro (hnc) (by simp) (by simp) ?_; try simp )
    | (refine CallG.intro (fun _ => hnc) (by simp) (by simp) ?_; try simp )
    | ((with_reducible refine PreK.intro ?_ ?_); (next => (first | omega | (intros; first | omega | (refine ⟨by omega, ?_⟩; repeat (first | assumption | constructor)) | assumption))); intro _; try simp )
    | fail)
  refine LoopK.by (ι := Nat × Nat × List (List Int)) (fun x => ⟨[(14, iv x.1), (13, iv N.length), (12, namesV N), (4, .sl 4 x.2.1 0 x.2.2.length), (3, .pt 3 1 0 0)], [(4, some ⟨1, x.2.2.map ints, x.2.1, false⟩), (3, some ⟨2, [.agg [ints L, ints R]], 1, true⟩)]⟩) (fun x => N.length - x.1)
    (fun x => x.1 ≤ N.length ∧ x.2.2 ++ (N.drop x.1).map (fun n => standM t n.1 n.2.toNat) = S) (0, 1, []) ⟨Nat.zero_le _, by simpa using hS⟩ (by simp) ?_
  intro ⟨i, ver, acc⟩ Q' ⟨hi, hc⟩ hq he hr
  dsimp only at hi hc
  have hlen := congrArg List.length hc
  simp only [List.length_append] at hlen
  try simp 
  refine CondK.intro (fun h1 => ?_) (fun h1 => ?_)
  · simp at h1
    obtain ⟨e1, e2⟩ := hin _ (el_mem_of N i h1)
    have hst1 := hst (el N i).1 (el N i).2
    rw [e1] at hst1
    rw [drop_cons N i h1, List.map_cons] at hc
    generalize standM t (el N i).1 (el N i).2.toNat = st at *
    try simp [h1]
    repeat (refine PreK.intro (by first | omega | (intros; first | omega | (refine ⟨by omega, ?_⟩; simp_all; done) | (simp_all; done) | (simp_all; omega))) fun _ => ?_; (try simp [h1]))
    try simp 
    repeat' (first
      | (refine CallX.pure (hst1) (by simp) (by simp) ?_; try simp )
      | (refine CallK.intro (hst1) (by simp) (by simp) ?_; try simp )
      | (refine CallG.intro (fun _ => hst1) (by simp) (by simp) ?_; try simp )
      | ((with_reducible refine PreK.intro ?_ ?_); (next => (first | omega | (intros; first | omega | (refine ⟨by omega, ?_⟩; repeat (first | assumption | constructor)) | assumption))); intro _; try simp )
      | fail)
    repeat (refine PreK.intro (by first | omega | (intros; first | omega | (refine ⟨by omega, ?_⟩; simp_all; done) | (simp_all; done) | (simp_all; omega))) fun _ => ?_; (try simp ))
    exact hq (i + 1, ver + 1, acc ++ [st]) _ ⟨by dsimp only; omega, by simpa using hc⟩ (by dsimp only; omega) (by simp)
  · simp at h1
    rw [List.drop_eq_nil_of_le (by omega)] at hc
    simp only [List.map_nil, List.append_nil] at hc
    subst hc
    try simp 
    apply he
    try simp 
    refine CallX.lend [] (id := 4) (ver := ver) (n := acc.length) (b := ⟨1, acc.map ints, ver, false⟩) [.fn 44 [] []] (.val (.tup [])) _ (by simp) (by simp) (by simp) (by simp) (by simp) (by simp) (by simp) (by simpa using hs1) ?_
    try simp 
    refine CallX.lend [] (id := 4) (ver := ver) (n := acc.length) (b := ⟨1, so.map ints, ver, false⟩) [.fn 46 [] []] (.part U.length) _ (by simp) (by simp) (by simp) (by simp) (by simp [hsl]) (by simp) (by simp) (by simpa using hs2) ?_
    repeat (refine PreK.intro (by first | omega | (intros; first | omega | (refine ⟨by omega, ?_⟩; simp_all; done) | (simp_all; done) | (simp_all; omega))) fun _ => ?_; (try simp ))
end Go.Proofs.YtphkchjhghdhiaaGreat
end

section
/- Contracts: the document's names and classes. -/
namespace Go.Proofs.YtphkchjhghdhiaaGreat
open Go.Abs Go
attribute [local simp] avsEq avEq akind teq vkind vEq

end Go.Proofs.YtphkchjhghdhiaaGreat
end

section
/- Contracts: the document's families and orders; what is too long. -/
namespace Go.Proofs.YtphkchjhghdhiaaGreat
open Go.Abs Go
set_option maxRecDepth 20000
set_option maxHeartbeats 2000000
attribute [local irreducible] PreK CondK CallK CallG CallX LoopK
attribute [local simp] avsEq avEq akind teq vkind vEq

theorem large_c (l : List Int) : CallP Tryz.prog 13 [ints l] (bv (decide (100 < l.length))) := by
  refine C13 (by simp) ?_
  simp [A13]
  omega
def longT (t : List (List Int)) : Bool := decide (50 < t.length) || t.any fun r => decide (100 < r.length)
theorem longT_small {t : List (List Int)} (h : longT t = false) : Sm t := by
  unfold longT at h
  simp only [Bool.or_eq_false_iff, decide_eq_false_iff_not, List.any_eq_false, decide_eq_true_eq] at h
  exact ⟨by omega, fun r hr => by have := h.2 r hr; omega⟩
theorem Long_c (t : List (List Int)) (hb : t.length ≤ big) : CallP Tryz.prog 4 [tabV t] (bv (longT t)) := by
  refine C4 (by simp) ?_
  generalize hR : longT t = R
  unfold longT at hR
  simp [A4]
  refine CondK.intro (fun h1 => ?_) (fun h1 => ?_)
  · simp at h1
    have h1' : 50 < t.length := by omega
    simp only [h1', decide_true, Bool.true_or] at hR
    try simp 
    first | exact hR | exact hR.symm
  · simp at h1
    have h1' : ¬ 50 < t.length := by omega
    simp only [h1', decide_false, Bool.false_or] at hR
    try simp 
    refine LoopK.by (fun i : Nat => ⟨[(3, iv i), (0, tabV t)], []⟩) (fun i => t.length - i) (fun i => i ≤ t.length ∧ ((t.drop i).any fun r => decide (100 < r.length)) = R) 0 (by simpa using hR) (by simp) ?_
    intro i Q' ⟨hi, hc⟩ hq he hr'
    try simp 
    refine CondK.intro (fun h2 => ?_) (fun h2 => ?_)
    · simp at h2
      have hlg := large_c (el t i)
      rw [drop_cons t i h2, List.any_cons] at hc
      generalize decide (100 < (el t i).length) = b at hlg hc
      try simp [h2]
      repeat' (first
        | (refine CallX.pure (hlg) (by simp) (by simp) ?_; try simp [h2])
        | (refine CallK.intro (hlg) (by simp) (by simp) ?_; try simp [h2])
        | (refine CallG.intro (fun _ => hlg) (by simp) (by simp) ?_; try simp [h2])
        | ((with_reducible refine PreK.intro ?_ ?_); (next => (first | omega | (intros; first | omega | (refine ⟨by omega, ?_⟩; repeat (first | assumption | constructor)) | assumption))); intro _; try simp [h2])
        | fail)
      cases b with
      | true =>
        refine CondK.tt ?_
        try simp 
        apply hr'
        simpa using hc
      | false =>
        refine CondK.ff ?_
        try simp 
        repeat (refine PreK.intro (by first | omega | (intros; first | omega | (refine ⟨by omega, ?_⟩; simp_all; done) | (simp_all; done) | (simp_all; omega))) fun _ => ?_; (try simp ))
        exact hq (i + 1) _ ⟨by omega, by simpa using hc⟩ (by omega) (by simp)
    · simp at h2
      rw [List.drop_eq_nil_of_le (by omega)] at hc
      simp only [List.any_nil] at hc
      try simp 
      apply he
      try simp 
      first | exact hc | exact hc.symm
end Go.Proofs.YtphkchjhghdhiaaGreat
end

section
/- Contracts: what the program and the document say of a table: sounds, rows, names, classes. -/
namespace Go.Proofs.YtphkchjhghdhiaaGreat
open Go.Abs Go
set_option maxRecDepth 20000
set_option maxHeartbeats 2000000
attribute [local irreducible] PreK CondK CallK CallG CallX LoopK
attribute [local simp] avsEq avEq akind teq vkind vEq

def ClassesE (t : Tab) : List (List Int) × Int := if tabErr t ≠ 0 then ([], tabErr t) else (classesM t, 0)
theorem Classes_c (t : Tab) (h : Sm t) : CallP Tryz.prog 11 [tabV t] (.tup [tabV (ClassesE t).1, iv (ClassesE t).2]) := by
  refine C11 (by simp) ?_
  have hv := Validate_c t h
  unfold ClassesE
  by_cases h0 : tabErr t = 0
  · have hlo := classes_c t (tabErr_zero.1 h0)
    rw [h0] at hv ⊢
    generalize classesM t = L at *
    simp [A11]
    try simp 
    repeat' (first
      | (refine CallX.pure (hv) (by simp) (by simp) ?_; try simp )
      | (refine CallK.intro (hv) (by simp) (by simp) ?_; try simp )
      | (refine CallG.intro (fun _ => hv) (by simp) (by simp) ?_; try simp )
      | ((with_reducible refine PreK.intro ?_ ?_); (next => (first | omega | (intros; first | omega | (refine ⟨by omega, ?_⟩; repeat (first | assumption | constructor)) | assumption))); intro _; try simp )
      | fail)
    refine CondK.ff ?_
    try simp 
    try simp 
    repeat' (first
      | (refine CallX.pure (hlo) (by simp) (by simp) ?_; try simp )
      | (refine CallK.intro (hlo) (by simp) (by simp) ?_; try simp )
      | (refine CallG.intro (fun _ => hlo) (by simp) (by simp) ?_; try simp )
      | ((with_reducible refine PreK.intro ?_ ?_); (next => (first | omega | (intros; first | omega | (refine ⟨by omega, ?_⟩; repeat (first | assumption | constructor)) | assumption))); intro _; try simp )
      | fail)
    repeat (refine PreK.intro (by first | omega | (intros; first | omega | (refine ⟨by omega, ?_⟩; simp_all; done) | (simp_all; done) | (simp_all; omega))) fun _ => ?_; (try simp ))
  · rw [if_pos h0]
    generalize tabErr t = e at *
    simp [A11]
    try simp 
    repeat' (first
      | (refine CallX.pure (hv) (by simp) (by simp) ?_; try simp )
      | (refine CallK.intro (hv) (by simp) (by simp) ?_; try simp )
      | (refine CallG.intro (fun _ => hv) (by simp) (by simp) ?_; try simp )
      | ((with_reducible refine PreK.intro ?_ ?_); (next => (first | omega | (intros; first | omega | (refine ⟨by omega, ?_⟩; repeat (first | assumption | constructor)) | assumption))); intro _; try simp )
      | fail)
    refine CondK.intro (fun h1 => ?_) (fun h1 => ?_)
    · repeat (refine PreK.intro (by first | omega | (intros; first | omega | (refine ⟨by omega, ?_⟩; simp_all; done) | (simp_all; done) | (simp_all; omega))) fun _ => ?_; (try simp ))
    · simp at h1
      exact absurd h1 h0
end Go.Proofs.YtphkchjhghdhiaaGreat
end

section
/- Contracts: the document's list of all orders; its first and its best one. -/
namespace Go.Proofs.YtphkchjhghdhiaaGreat
open Go.Abs Go
attribute [local simp] avsEq avEq akind teq vkind vEq

/-! ### the first order, and the best one -/
def OrderE (n : Int) (f : List (List Int)) : List Int × Bool × Int := if famErr n f ≠ 0 then ([], false, famErr n f) else ((OrderM n.toNat f).1, (OrderM n.toNat f).2, 0)
end Go.Proofs.YtphkchjhghdhiaaGreat
end

section
/- Contracts: the program's orders, marks and tables. -/
namespace Go.Proofs.YtphkchjhghdhiaaGreat
open Go.Abs Go
set_option maxRecDepth 20000
set_option maxHeartbeats 2000000
attribute [local irreducible] PreK CondK CallK CallG CallX LoopK
attribute [local simp] avsEq avEq akind teq vkind vEq

theorem callB_weak {P : Program} {f : FuncId} {as' : List AV} {m m' : List (Nat × Option Box)} {r : AV} (h : CallB P f (weakL as') m r m') : CallB P f as' m r m' :=
  ⟨h.1, fun w X μ vs h1 h2 h3 h4 h5 => h.2 w X μ vs h1 h2 h3 (by rw [weakL_length]; exact h4) fun i hi => by
    rw [weakL_length] at hi
    rw [weakL_get hi]
    exact (h5 i hi).weak⟩
theorem Order_c (n : Int) (f : List (List Int)) (hs : Sm f) : CallP Tryz.prog 14 [iv n, tabV f] (.tup [ints (OrderE n f).1, bv (OrderE n f).2.1, iv (OrderE n f).2.2]) := by
  refine C14 (by simp) ?_
  have hv := ValidateFamily_c n f hs
  unfold OrderE
  by_cases h0 : famErr n f = 0
  · obtain ⟨k, rfl, hf⟩ := famErr_zero h0
    rw [if_neg (by simpa using h0)]
    rw [h0] at hv
    have hd := orders1_b f k hf k [] [] trivial (by simp) (by simp) (by simp)
    rw [Int.toNat_natCast, order_spec hf.lo f]
    unfold allO
    generalize runT (stepO f) [] (ordF k k []) = R at hd ⊢
    obtain ⟨s1, r⟩ := R
    dsimp only at hd ⊢
    simp only [oM, oP, slV_nil] at hd
    simp [A14]
    try simp 
    repeat' (first
      | (refine CallX.pure (hv) (by simp) (by simp) ?_; try simp )
      | (refine CallK.intro (hv) (by simp) (by simp) ?_; try simp )
      | (refine CallG.intro (fun _ => hv) (by simp) (by simp) ?_; try simp )
      | ((with_reducible refine PreK.intro ?_ ?_); (next => (first | omega | (intros; first | omega | (refine ⟨by omega, ?_⟩; repeat (first | assumption | constructor)) | assumption))); intro _; try simp )
      | fail)
    refine CondK.ff ?_
    try simp 
    repeat (refine PreK.intro (by first | omega | (intros; first | omega | (refine ⟨by omega, ?_⟩; simp_all; done) | (simp_all; done) | (simp_all; omega))) fun _ => ?_; (try simp ))
    by_cases h1 : s1 = []
    · subst h1
      simp only [slV_nil] at hd
      refine CallX.boxes [(3, 1, 101), (8, 1, 102)] (by simp) (callB_weak (by simpa [weakL, weak] using hd)) ?_
      try simp 
      repeat (refine PreK.intro (by first | omega | (intros; first | omega | (refine ⟨by omega, ?_⟩; simp_all; done) | (simp_all; done) | (simp_all; omega))) fun _ => ?_; (try simp ))
    · simp only [slV_ne h1] at hd
      refine CallX.boxes [(3, 1, 101), (8, 1, 102)] (by simp) (callB_weak (by simpa [weakL, weak] using hd)) ?_
      try simp [h1]
      repeat (refine PreK.intro (by first | omega | (intros; first | omega | (refine ⟨by omega, ?_⟩; simp_all; done) | (simp_all; done) | (simp_all; omega))) fun _ => ?_; (try simp [h1]))
  · rw [if_pos h0]
    generalize famErr n f = e at *
    simp [A14]
    try simp 
    repeat' (first
      | (refine CallX.pure (hv) (by simp) (by simp) ?_; try simp )
      | (refine CallK.intro (hv) (by simp) (by simp) ?_; try simp )
      | (refine CallG.intro (fun _ => hv) (by simp) (by simp) ?_; try simp )
      | ((with_reducible refine PreK.intro ?_ ?_); (next => (first | omega | (intros; first | omega | (refine ⟨by omega, ?_⟩; repeat (first | assumption | constructor)) | assumption))); intro _; try simp )
      | fail)
    refine CondK.intro (fun h1 => ?_) (fun h1 => ?_)
    · repeat (refine PreK.intro (by first | omega | (intros; first | omega | (refine ⟨by omega, ?_⟩; simp_all; done) | (simp_all; done) | (simp_all; omega))) fun _ => ?_; (try simp ))
    · simp at h1
      exact absurd h1 h0
/-! ### the program has the classes that the document gives -/
theorem classes_srt {t : Tab} (h : TabOK t) : classesM t = insA [] ((namesM t).map fun n => srtM (segM t n.1 n.2.toNat)) := by
  have h1 : setsM t = (namesM t).map fun n => srtM (segM t n.1 n.2.toNat) := by
    unfold setsM
    refine List.map_congr_left fun x _ => ?_
    exact srtM_eq (seg_nd h _ _) fun y hy => seg_val h hy
  rw [← h1]
  exact uniq_insA fun z => Iff.rfl
theorem known_c : CallP Tryz.prog 5 [] (bv true) := by
  refine C5 (by simp) ?_
  have s1 : Sm [[0, 1], [2]] := ⟨by simp, by intro r hr; simp at hr; rcases hr with rfl | rfl <;> simp⟩
  have s2 : Sm [[0, 1], [1, 2], [0, 2]] := ⟨by simp, by intro r hr; simp at hr; rcases hr with rfl | rfl | rfl <;> simp⟩
  have hC := Classes_c [[0, 1], [2]] s1
  have hO := Order_c 3 [[0, 1], [1, 2], [0, 2]] s2
  have t0 : tabErr [[0, 1], [2]] = 0 := by decide +kernel
  have e1 : ClassesE [[0, 1], [2]] = ([[0, 1], [0, 1, 2], [1], [1, 2], [2]], 0) := by
    unfold ClassesE
    rw [if_neg (by simpa using t0), classes_srt (tabErr_zero.1 t0)]
    decide +kernel
  have e2 : OrderE 3 [[0, 1], [1, 2], [0, 2]] = ([], false, 0) := by decide +kernel
  rw [e1] at hC
  rw [e2] at hO
  have h2 := sameLists_c [[0, 1], [0, 1, 2], [1], [1, 2], [2]] [[0, 1], [0, 1, 2], [1], [1, 2], [2]] (by simp [big]) (by simp [big])
  simp [A5]
  simp at hC hO h2
  refine CallX.pure (CallP.weak (by simpa [weakL, weak] using hC)) (by simp) (by simp) ?_
  try simp 
  refine CallX.pure (CallP.weak (by simpa [weakL, weak] using hO)) (by simp) (by simp) ?_
  try simp 
  repeat (refine PreK.intro (by first | omega | (intros; first | omega | (refine ⟨by omega, ?_⟩; simp_all; done) | (simp_all; done) | (simp_all; omega))) fun _ => ?_; (try simp ))
  refine CallG.intro (fun _ => CallP.weak (by simpa [weakL, weak] using h2)) (by simp) (by simp) ?_
  try simp 
  repeat (refine PreK.intro (by first | omega | (intros; first | omega | (refine ⟨by omega, ?_⟩; simp_all; done) | (simp_all; done) | (simp_all; omega))) fun _ => ?_; (try simp ))
end Go.Proofs.YtphkchjhghdhiaaGreat
end

section
/- Contracts: the statement SoundJoins. -/
namespace Go.Proofs.YtphkchjhghdhiaaGreat
open Go.Abs Go
set_option maxRecDepth 20000
set_option maxHeartbeats 8000000
attribute [local irreducible] PreK CondK CallK CallG CallX LoopK
/- PURSE -/
attribute [local simp] avsEq avEq akind teq vkind vEq

theorem inside_c (a b : List (List Int)) (ha : a.length ≤ 1000) (hb : b.length ≤ 1000) (hw : ∀ x ∈ a, x.length ≤ 1000) : CallP Tryz.prog 12 [tabV a, tabV b] (bv (a.all fun x => decide (x ∈ b))) := by
  refine C12 (by simp) ?_
  generalize hR : (a.all fun x => decide (x ∈ b)) = R
  simp [A12]
  refine LoopK.by (fun i : Nat => ⟨[(5, iv i), (0, tabV a), (1, tabV b)], []⟩) (fun i => a.length - i) (fun i => i ≤ a.length ∧ ((a.drop i).all fun x => decide (x ∈ b)) = R) 0 (by simpa using hR) (by simp) ?_
  intro i Q' ⟨hi, hc⟩ hq he hr
  by_cases h1 : i < a.length
  · have h1' : (i : Int) < a.length := by omega
    have hxl := hw _ (el_mem_of a i h1)
    rw [drop_cons a i h1, List.all_cons] at hc
    try simp [h1, h1']
    repeat (refine PreK.intro (by first | omega | (intros; first | omega | (refine ⟨by omega, ?_⟩; simp_all; done) | (simp_all; done) | (simp_all; omega))) fun _ => ?_; (try simp [h1, h1']))
    refine CondK.tt ?_
    try simp 
    try simp [h1, h1']
    repeat (refine PreK.intro (by first | omega | (intros; first | omega | (refine ⟨by omega, ?_⟩; simp_all; done) | (simp_all; done) | (simp_all; omega))) fun _ => ?_; (try simp [h1, h1']))
    refine LoopK.by (ι := Nat) (fun j => ⟨[(7, iv j), (6, bv (decide (el a i ∈ b.take j))), (5, iv i), (0, tabV a), (1, tabV b)], []⟩) (fun j => b.length - j) (fun j => j ≤ b.length) 0 (Nat.zero_le _) (by simp) ?_
    intro j Q2 hj hq2 he2 hr2
    by_cases h2 : j < b.length
    · have h2' : (j : Int) < b.length := by omega
      have hs := same1_c (el a i) (el b j) (big_of hxl)
      have hst : decide (el a i ∈ b.take (j + 1)) = (decide (el a i ∈ b.take j) || decide (el a i = el b j)) := by
        rw [take_succ b j h2]
        by_cases u : el a i ∈ b.take j <;> by_cases v : el a i = el b j <;> simp [u, v]
      cases hd : decide (el a i ∈ b.take j) with
      | true =>
        rw [hd] at hst
        try simp [h1, h1', h2, h2']
        repeat (refine PreK.intro (by first | omega | (intros; first | omega | (refine ⟨by omega, ?_⟩; simp_all; done) | (simp_all; done) | (simp_all; omega))) fun _ => ?_; (try simp [h1, h1', h2, h2']))
        refine CondK.tt ?_
        try simp 
        try simp [h1, h1', h2, h2']
        repeat (refine PreK.intro (by first | omega | (intros; first | omega | (refine ⟨by omega, ?_⟩; simp_all; done) | (simp_all; done) | (simp_all; omega))) fun _ => ?_; (try simp [h1, h1', h2, h2']))
        refine CallG.intro (r := (bv true)) (fun hh => by cases hh) (by simp) (by simp) ?_
        try simp 
        try simp [h1, h1', h2, h2']
        repeat (refine PreK.intro (by first | omega | (intros; first | omega | (refine ⟨by omega, ?_⟩; simp_all; done) | (simp_all; done) | (simp_all; omega))) fun _ => ?_; (try simp [h1, h1', h2, h2']))
        exact hq2 (j + 1) _ (by omega) (by omega) (by simp [hst])
      | false =>
        rw [hd] at hst
        try simp [h1, h1', h2, h2']
        repeat (refine PreK.intro (by first | omega | (intros; first | omega | (refine ⟨by omega, ?_⟩; simp_all; done) | (simp_all; done) | (simp_all; omega))) fun _ => ?_; (try simp [h1, h1', h2, h2']))
        refine CondK.tt ?_
        try simp 
        try simp [h1, h1', h2, h2']
        repeat (refine PreK.intro (by first | omega | (intros; first | omega | (refine ⟨by omega, ?_⟩; simp_all; done) | (simp_all; done) | (simp_all; omega))) fun _ => ?_; (try simp [h1, h1', h2, h2']))
        refine CallG.intro (r := bv (decide (el a i = el b j))) (fun _ => by simpa using hs) (by simp) (by simp) ?_
        try simp [h1, h1', h2, h2']
        repeat (refine PreK.intro (by first | omega | (intros; first | omega | (refine ⟨by omega, ?_⟩; simp_all; done) | (simp_all; done) | (simp_all; omega))) fun _ => ?_; (try simp [h1, h1', h2, h2']))
        exact hq2 (j + 1) _ (by omega) (by omega) (by simp [hst])
    · have h2' : ¬ (j : Int) < b.length := by omega
      have hje : j = b.length := by omega
      subst hje
      rw [List.take_length]
      try simp [h1, h1', h2, h2']
      repeat (refine PreK.intro (by first | omega | (intros; first | omega | (refine ⟨by omega, ?_⟩; simp_all; done) | (simp_all; done) | (simp_all; omega))) fun _ => ?_; (try simp [h1, h1', h2, h2']))
      refine CondK.ff ?_
      try simp 
      apply he2
      by_cases hm : el a i ∈ b
      · rw [decide_eq_true hm] at hc ⊢
        try simp [h1, h1']
        repeat (refine PreK.intro (by first | omega | (intros; first | omega | (refine ⟨by omega, ?_⟩; simp_all; done) | (simp_all; done) | (simp_all; omega))) fun _ => ?_; (try simp [h1, h1']))
        refine CondK.ff ?_
        try simp 
        try simp 
        repeat (refine PreK.intro (by first | omega | (intros; first | omega | (refine ⟨by omega, ?_⟩; simp_all; done) | (simp_all; done) | (simp_all; omega))) fun _ => ?_; (try simp ))
        exact hq (i + 1) _ ⟨by omega, by simpa using hc⟩ (by omega) (by simp)
      · rw [decide_eq_false hm] at hc ⊢
        try simp [h1, h1']
        repeat (refine PreK.intro (by first | omega | (intros; first | omega | (refine ⟨by omega, ?_⟩; simp_all; done) | (simp_all; done) | (simp_all; omega))) fun _ => ?_; (try simp [h1, h1']))
        refine CondK.tt ?_
        try simp 
        try simp 
        repeat (refine PreK.intro (by first | omega | (intros; first | omega | (refine ⟨by omega, ?_⟩; simp_all; done) | (simp_all; done) | (simp_all; omega))) fun _ => ?_; (try simp ))
        apply hr
        simp [← hc]
  · have h1' : ¬ (i : Int) < a.length := by omega
    rw [List.drop_eq_nil_of_le (by omega)] at hc
    try simp [h1, h1']
    repeat (refine PreK.intro (by first | omega | (intros; first | omega | (refine ⟨by omega, ?_⟩; simp_all; done) | (simp_all; done) | (simp_all; omega))) fun _ => ?_; (try simp [h1, h1']))
    refine CondK.ff ?_
    try simp 
    apply he
    simp [← hc]
end Go.Proofs.YtphkchjhghdhiaaGreat
end
