/- Part 5 of the proof: the value layer and the contracts of the functions that the statement reaches; proved without conditions beyond those each theorem states. -/
import Derived.Test.YtkhddecnllcaiaaGreatV4
set_option linter.unusedSimpArgs false
set_option linter.unusedVariables false

section
/- Contracts: equal neighbours left out, and the sort of words. -/
namespace Go.Proofs.YtkhddecnllcaiaaGreat
open Go.Abs Go
set_option maxRecDepth 20000
set_option maxHeartbeats 2000000
attribute [local irreducible] PreK CondK CallK CallG CallX LoopK
attribute [local simp] avsEq avEq akind teq vkind vEq

theorem take_setG {α : Type} [Inhabited α] (o : List α) (i : Nat) (v : α) (hi : i < o.length) : (o.set i v).take (i + 1) = o.take i ++ [v] := by
  rw [take_succ _ i (by simpa using hi)]
  have : el (o.set i v) i = v := by unfold el; simp [hi]
  rw [this, List.take_set, List.set_eq_of_length_le (by simp; omega)]
theorem compact_L (l : List (List Int)) (hl : l.length ≤ 1000) (hw : ∀ w ∈ l, w.length ≤ 1000) :
    CallL Tryz.prog 60 [] 1 (l.map ints) [.fn 49 [] []] (.part (compW l).length) ((compW l).map ints ++ List.replicate (l.length - (compW l).length) (.seq 1 [] true)) := by
  refine CL60 (by simp) ?_
  have hel : ∀ i, (el l i).length ≤ 1000 := by
    intro i
    by_cases h : i < l.length
    · exact hw _ (el_mem_of l i h)
    · unfold el; rw [List.getD_eq_getElem?_getD, List.getElem?_eq_none (by omega)]; simp [default]
  generalize hR : compW l = R
  simp [A60]
  refine CondK.intro (fun h1 => ?_) (fun h1 => ?_)
  · simp at h1
    have : R = l := by
      rw [← hR]
      match l, h1 with
      | [], _ => rfl
      | [x], _ => rfl
      | _ :: _ :: _, h1 => simp at h1; omega
    subst this
    simp
  · simp at h1
    try simp 
    have h0 : l.take 1 ++ compF (el l 0) (l.drop 1) = R := by
      rw [← hR]
      match l, h1 with
      | x :: m, _ => simp [compW, el]
    refine LoopK.by (fun k : Nat => ⟨[(5, iv ((k : Int) + 1)), (0, .sl lid 0 0 l.length), (1, .fn 49 [] [])], [(lid, some ⟨1, l.map ints, 0, false⟩)]⟩) (fun i => l.length - i) (fun k => k + 1 ≤ l.length ∧ l.take (k + 1) ++ compF (el l k) (l.drop (k + 1)) = R) 0 ⟨by omega, h0⟩ (by simp) ?_
    intro k Q' ⟨hk, hc⟩ hq he hr
    try simp 
    refine CondK.intro (fun h2 => ?_) (fun h2 => ?_)
    · simp at h2
      have h2' : k + 1 < l.length := by omega
      have h2'' : k < l.length := by omega
      have he1 := equal_c (el l (k + 1)) (el l k) (big_of (hel _))
      rw [drop_cons l (k + 1) h2', compF] at hc
      repeat (refine PreK.intro (by first | omega | (intros; first | omega | (refine ⟨by omega, ?_⟩; simp_all; done) | (simp_all; done) | (simp_all; omega))) fun _ => ?_; (try simp [h2', h2'']))
      refine CallK.intro (by simpa using he1) (by simp) (by simp) ?_
      try simp 
      refine CondK.intro (fun h3 => ?_) (fun h3 => ?_)
      · simp at h3
        rw [if_pos h3, ← h3] at hc
        try simp 
        repeat' (first
          | ((with_reducible refine PreK.intro ?_ ?_); (next => (first | omega | (intros; first | omega | (refine ⟨by omega, ?_⟩; repeat (first | assumption | constructor)) | assumption))); intro _; try simp )
          | fail)
        refine LoopK.by (ι := Nat × Nat × List (List Int)) (fun x => ⟨[(7, iv ((x.1 : Int) + 1)), (5, iv x.2.1), (6, .sl lid 0 (k + 1) (l.length - (k + 1))), (0, .sl lid 0 0 l.length), (1, .fn 49 [] [])], [(lid, some ⟨1, x.2.2.map ints, 0, false⟩)]⟩) (fun x => l.length - x.1)
          (fun x => k + 1 + x.1 + 1 ≤ l.length ∧ x.2.1 ≤ k + 1 + x.1 ∧ x.2.2.length = l.length ∧ (∀ q, k + 1 + x.1 ≤ q → el x.2.2 q = el l q) ∧ x.2.2.take x.2.1 ++ compF (el l (k + 1 + x.1)) (l.drop (k + 1 + x.1 + 1)) = R) (0, k + 1, l) ⟨by dsimp only; omega, by simp, rfl, fun _ _ => rfl, hc⟩ (by simp) ?_
        intro ⟨j, i, c⟩ Q'' ⟨hj, hij, hcl, hce, hin⟩ hq' he' hr'
        dsimp only at hj hij hcl hce hin
        try simp 
        refine CondK.intro (fun h4 => ?_) (fun h4 => ?_)
        · simp at h4
          have h5 : k + 1 + j + 1 < l.length := by omega
          have e1 := hce (k + 1 + j) (by omega)
          have e2 := hce (k + 1 + (j + 1)) (by omega)
          have e3 : k + 1 + (j + 1) = k + 1 + j + 1 := rfl
          have g1 : k + 1 + j < c.length := by omega
          have g2 : k + 1 + (j + 1) < c.length := by omega
          have he2 := equal_c (el l (k + 1 + (j + 1))) (el l (k + 1 + j)) (big_of (hel _))
          rw [drop_cons l _ h5, compF] at hin
          repeat (refine PreK.intro (by first | omega | (intros; first | omega | (refine ⟨by omega, ?_⟩; simp_all; done) | (simp_all; done) | (simp_all; omega))) fun _ => ?_; (try simp [g1, g2, e1, e2]))
          refine CallK.intro (by simpa using he2) (by simp) (by simp) ?_
          try simp 
          repeat (refine PreK.intro (by first | omega | (intros; first | omega | (refine ⟨by omega, ?_⟩; simp_all; done) | (simp_all; done) | (simp_all; omega))) fun _ => ?_; (try simp ))
          refine CondK.intro (fun h6 => ?_) (fun h6 => ?_)
          · simp at h6
            rw [if_neg (by rw [← e3]; exact h6)] at hin
            have g3 : i < c.length := by omega
            repeat (refine PreK.intro (by first | omega | (intros; first | omega | (refine ⟨by omega, ?_⟩; simp_all; done) | (simp_all; done) | (simp_all; omega))) fun _ => ?_; (try simp [g1, g2, e1, e2, g3]))
            refine hq' (j + 1, i + 1, c.set i (el l (k + 1 + (j + 1)))) _ ⟨by dsimp only; omega, by dsimp only; omega, by simpa using hcl, fun q hq2 => ?_, ?_⟩ (by dsimp only; omega) ?_
            · dsimp only at hq2 ⊢
              unfold el
              rw [List.getD_eq_getElem?_getD, List.getElem?_set, if_neg (by omega), ← List.getD_eq_getElem?_getD]
              exact hce q (by omega)
            · dsimp only
              rw [take_setG _ _ _ g3, List.append_assoc]
              exact hin
            · simp [List.map_set]
          · simp at h6
            rw [if_pos (by rw [← e3]; exact h6)] at hin
            repeat (refine PreK.intro (by first | omega | (intros; first | omega | (refine ⟨by omega, ?_⟩; simp_all; done) | (simp_all; done) | (simp_all; omega))) fun _ => ?_; (try simp ))
            refine hq' (j + 1, i, c) _ ⟨by dsimp only; omega, by dsimp only; omega, hcl, fun q hq2 => hce q (by dsimp only at hq2; omega), ?_⟩ (by dsimp only; omega) (by simp)
            dsimp only
            rw [h6]
            exact hin
        · simp at h4
          rw [List.drop_eq_nil_of_le (by omega)] at hin
          simp only [compF, List.append_nil] at hin
          have hRl : R.length = i := by rw [← hin]; simp; omega
          try simp 
          apply he'
          have e5 : (c.map ints).take i = R.map ints := by rw [← hin, List.map_take]
          have e6 : (c.map ints).drop (i + (l.length - i)) = [] := List.drop_eq_nil_of_le (by simp; omega)
          try simp 
          repeat' (first
            | ((with_reducible refine PreK.intro ?_ ?_); (next => (first | omega | (intros; first | omega | (refine ⟨by omega, ?_⟩; repeat (first | assumption | constructor)) | assumption))); intro _; try simp )
            | fail)
          apply hr
          simp only [e5, e6, hRl]
          try simp 
      · simp at h3
        rw [if_neg h3] at hc
        repeat (refine PreK.intro (by first | omega | (intros; first | omega | (refine ⟨by omega, ?_⟩; simp_all; done) | (simp_all; done) | (simp_all; omega))) fun _ => ?_; (try simp ))
        refine hq (k + 1) _ ⟨by omega, ?_⟩ (by omega) (by simp)
        rw [take_succ l (k + 1) h2']
        simpa using hc
    · simp at h2
      rw [List.drop_eq_nil_of_le (by omega)] at hc
      simp only [compF, List.append_nil] at hc
      rw [List.take_of_length_le (by omega)] at hc
      subst hc
      try simp 
      apply he
      try simp 
      repeat' (first
        | ((with_reducible refine PreK.intro ?_ ?_); (next => (first | omega | (intros; first | omega | (refine ⟨by omega, ?_⟩; repeat (first | assumption | constructor)) | assumption))); intro _; try simp )
        | fail)
end Go.Proofs.YtkhddecnllcaiaaGreat
end

section
/- Contracts: the sorted list of words. -/
namespace Go.Proofs.YtkhddecnllcaiaaGreat
open Go.Abs Go
set_option maxRecDepth 20000
set_option maxHeartbeats 2000000
attribute [local irreducible] PreK CondK CallK CallG CallX LoopK
attribute [local simp] avsEq avEq akind teq vkind vEq

theorem sortW_len (l : List (List Int)) : (sortW l).length = l.length := (sortW_perm l).length_eq
end Go.Proofs.YtkhddecnllcaiaaGreat
end

section
/- Contracts: feed's Reach, Ends, Next. -/
namespace Go.Proofs.YtkhddecnllcaiaaGreat
open Go.Abs Go
set_option maxRecDepth 20000
set_option maxHeartbeats 2000000
attribute [local irreducible] PreK CondK CallK CallG CallX LoopK
attribute [local simp] avsEq avEq akind teq vkind vEq

/-- The words, each once, in order. -/
def uniq (l : List Word) : List Word := compW (sortW l)
theorem uniq_len (l : List Word) : (uniq l).length ≤ l.length := by
  unfold uniq
  have := (sortW_perm l).length_eq
  rw [← this]
  cases sortW l with
  | nil => simp [compW]
  | cons x m => simp only [compW, List.length_cons]; have := compF_num x m; omega
end Go.Proofs.YtkhddecnllcaiaaGreat
end

section
/- Plain: words put in order one by one, and sorted all at once, are the same. -/
namespace Go.Proofs.YtkhddecnllcaiaaGreat
open Go.Abs Go

theorem compF_spec : ∀ (p : Word) (l : List Word), inOrder (p :: l) → sortedW (p :: compF p l) ∧ ∀ z, z ∈ p :: compF p l ↔ z ∈ p :: l
  | p, [], _ => by simp [compF, sortedW]
  | p, y :: l, h => by
    unfold inOrder at h
    rw [List.pairwise_cons] at h
    rw [compF]
    split
    · rename_i e
      subst e
      obtain ⟨h1, h2⟩ := compF_spec y l h.2
      exact ⟨h1, fun z => by rw [h2]; simp⟩
    · rename_i e
      obtain ⟨h1, h2⟩ := compF_spec y l h.2
      have hpy : bef p y = true := by
        rcases bef_total e with k | k
        · rw [h.1 y (by simp)] at k; cases k
        · exact k
      refine ⟨?_, fun z => ?_⟩
      · have h3 := h1
        unfold sortedW at h1 ⊢
        rw [List.pairwise_cons] at h1 ⊢
        refine ⟨fun z hz => ?_, h3⟩
        rcases List.mem_cons.1 hz with rfl | hz
        · exact hpy
        · exact bef_trans hpy (h1.1 z hz)
      · rw [List.mem_cons, h2, ← List.mem_cons]
theorem uniq_sorted (l : List Word) : sortedW (uniq l) ∧ ∀ z, z ∈ uniq l ↔ z ∈ l := by
  unfold uniq
  have ho := sortW_order l
  have hm : ∀ z, z ∈ sortW l ↔ z ∈ l := fun z => (sortW_perm l).mem_iff
  generalize sortW l = m at ho hm
  cases m with
  | nil => exact ⟨List.Pairwise.nil, fun z => by rw [← hm]; simp [compW]⟩
  | cons x m =>
    obtain ⟨h1, h2⟩ := compF_spec x m ho
    exact ⟨h1, fun z => by rw [← hm]; exact h2 z⟩
end Go.Proofs.YtkhddecnllcaiaaGreat
end

section
/- Contracts: lists of words in order; Bases on both sides, and the statement OrderBases. -/
namespace Go.Proofs.YtkhddecnllcaiaaGreat
open Go.Abs Go
set_option maxRecDepth 20000
set_option maxHeartbeats 2000000
attribute [local irreducible] PreK CondK CallK CallG CallX LoopK
attribute [local simp] avsEq avEq akind teq vkind vEq

theorem before_c (a b : List Int) (ha : a.length ≤ 1000) : CallP Tryz.prog 99 [ints a, ints b] (bv (bef a b)) := by
  refine C99 (by simp) ?_
  generalize hR : bef a b = R
  simp [A99]
  refine LoopK.by (fun i : Nat => ⟨[(5, iv i), (0, ints a), (1, ints b)], []⟩) (fun i => a.length - i) (fun i => i ≤ a.length ∧ i ≤ b.length ∧ bef (a.drop i) (b.drop i) = R) 0 (by simpa using hR) (by simp) ?_
  intro i Q' ⟨hi, hj, hc⟩ hq he hr
  by_cases h1 : i < a.length
  · by_cases h2 : i < b.length
    · rw [drop_cons a i h1, drop_cons b i h2, bef] at hc
      try simp [h1, h2]
      repeat' (first
        | ((with_reducible refine PreK.intro ?_ ?_); (next => (first | omega | (intros; first | omega | (refine ⟨by omega, ?_⟩; repeat (first | assumption | constructor)) | assumption))); intro _; try simp [h1, h2])
        | fail)
      refine CondK.intro (fun h3 => ?_) (fun h3 => ?_)
      · try simp [h1, h2]
        repeat' (first
          | ((with_reducible refine PreK.intro ?_ ?_); (next => (first | omega | (intros; first | omega | (refine ⟨by omega, ?_⟩; repeat (first | assumption | constructor)) | assumption))); intro _; try simp [h1, h2])
          | fail)
        refine CondK.intro (fun h4 => ?_) (fun h4 => ?_)
        · simp at h4
          rw [if_neg h4] at hc
          try simp [h1, h2]
          repeat' (first
            | ((with_reducible refine PreK.intro ?_ ?_); (next => (first | omega | (intros; first | omega | (refine ⟨by omega, ?_⟩; repeat (first | assumption | constructor)) | assumption))); intro _; try simp [h1, h2])
            | fail)
          apply hr
          simp [← hc]
        · simp at h4
          rw [if_pos h4] at hc
          try simp 
          repeat' (first
            | ((with_reducible refine PreK.intro ?_ ?_); (next => (first | omega | (intros; first | omega | (refine ⟨by omega, ?_⟩; repeat (first | assumption | constructor)) | assumption))); intro _; try simp )
            | fail)
          exact hq (i + 1) _ ⟨by omega, by omega, hc⟩ (by omega) (by simp)
      · simp at h3
    · have hb : b.drop i = [] := List.drop_eq_nil_of_le (by omega)
      rw [hb] at hc
      have hf : bef (a.drop i) [] = false := by cases a.drop i <;> rfl
      rw [hf] at hc
      try simp [h1, h2]
      repeat' (first
        | ((with_reducible refine PreK.intro ?_ ?_); (next => (first | omega | (intros; first | omega | (refine ⟨by omega, ?_⟩; repeat (first | assumption | constructor)) | assumption))); intro _; try simp [h1, h2])
        | fail)
      refine CondK.intro (fun h3 => ?_) (fun h3 => ?_)
      · simp at h3
      · try simp 
        repeat' (first
          | ((with_reducible refine PreK.intro ?_ ?_); (next => (first | omega | (intros; first | omega | (refine ⟨by omega, ?_⟩; repeat (first | assumption | constructor)) | assumption))); intro _; try simp )
          | fail)
        apply he
        simp [← hc]; omega
  · have h0 : i = a.length := by omega
    subst h0
    rw [List.drop_eq_nil_of_le (Nat.le_refl _)] at hc
    try simp 
    repeat' (first
      | ((with_reducible refine PreK.intro ?_ ?_); (next => (first | omega | (intros; first | omega | (refine ⟨by omega, ?_⟩; repeat (first | assumption | constructor)) | assumption))); intro _; try simp )
      | fail)
    refine CondK.intro (fun h3 => ?_) (fun h3 => ?_)
    · simp at h3
    · try simp 
      repeat' (first
        | ((with_reducible refine PreK.intro ?_ ?_); (next => (first | omega | (intros; first | omega | (refine ⟨by omega, ?_⟩; repeat (first | assumption | constructor)) | assumption))); intro _; try simp )
        | fail)
      apply he
      by_cases h2 : a.length < b.length
      · rw [drop_cons b _ h2, bef] at hc
        simp [← hc, h2]
      · rw [List.drop_eq_nil_of_le (by omega), bef] at hc
        simp [← hc, h2]
theorem wput_c (l : List (List Int)) (w : List Int) (hl : l.length ≤ 1000) (hs : ∀ x ∈ l, x.length ≤ 1000) (hw : w.length ≤ 1000) : CallP Tryz.prog 63 [wordsV l, ints w] (wordsV (putL l w)) := by
  refine C63 (by simp) ?_
  generalize hR : putL l w = R
  simp [A63]
  refine LoopK.by (ι := Nat × Nat × Bool × List (List Int)) (fun i => ⟨[(7, iv i.1), (6, bv i.2.2.1), (5, .sl 5 i.2.1 0 i.2.2.2.length), (0, wordsV l), (1, ints w)], [(5, some ⟨1, i.2.2.2.map ints, i.2.1, false⟩)]⟩) (fun i => l.length - i.1)
    (fun i => i.1 ≤ l.length ∧ (i.2.2.2.length ≤ i.1 + 1 ∧ (i.2.2.1 = false → i.2.2.2.length ≤ i.1)) ∧ (∀ x ∈ l.take i.1, x ≠ w) ∧ i.2.2.2 ++ (if i.2.2.1 then l.drop i.1 else insW w (l.drop i.1)) = insW w l) (0, 1, false, []) (by simp) (by simp) ?_
  intro ⟨i, ver, done, acc⟩ Q' ⟨hi, ⟨ha, hb⟩, hn, hc⟩ hq he hr
  dsimp only at hi ha hb hn hc
  try simp 
  refine CondK.intro (fun h1 => ?_) (fun h1 => ?_)
  · simp at h1
    have hm := el_mem_of l i h1
    have hxs := hs (el l i) hm
    simp [h1]
    refine CallX.pure (by simpa using sameInts_c (el l i) w (big_of (by omega))) (by simp) (by simp) ?_
    try simp 
    refine CondK.intro (fun h2 => ?_) (fun h2 => ?_)
    · simp at h2
      have hin : w ∈ l := by rw [← h2]; exact hm
      try simp 
      apply hr
      simp [← hR, putL, hin]
    · simp at h2
      have hn' : ∀ x ∈ l.take (i + 1), x ≠ w := by
        intro x hx
        rw [take_succ l i h1, List.mem_append] at hx
        rcases hx with hx | hx
        · exact hn x hx
        · simp only [List.mem_singleton] at hx
          rw [hx]; exact h2
      rw [drop_cons l i h1] at hc
      cases done
      · have hb := hb rfl
        simp only [Bool.false_eq_true, if_false, insW] at hc
        try simp [h1]
        repeat' (first
          | (refine CallX.pure (before_c w (el l i) hw) (by simp) (by simp) ?_; try simp [h1])
          | (refine CallK.intro (before_c w (el l i) hw) (by simp) (by simp) ?_; try simp [h1])
          | (refine CallG.intro (fun _ => before_c w (el l i) hw) (by simp) (by simp) ?_; try simp [h1])
          | ((with_reducible refine PreK.intro ?_ ?_); (next => (first | omega | (intros; first | omega | (refine ⟨by omega, ?_⟩; repeat (first | assumption | constructor)) | assumption))); intro _; try simp [h1])
          | fail)
        refine CondK.intro (fun h3 => ?_) (fun h3 => ?_)
        · rw [if_pos h3] at hc
          try simp [h1]
          repeat' (first
            | ((with_reducible refine PreK.intro ?_ ?_); (next => (first | omega | (intros; first | omega | (refine ⟨by omega, ?_⟩; repeat (first | assumption | constructor)) | assumption))); intro _; try simp [h1])
            | fail)
          exact hq (i + 1, ver + 1 + 1, true, acc ++ [w, el l i]) _ ⟨by dsimp only; omega, ⟨by simp; omega, by simp; try omega⟩, hn', by simpa using hc⟩ (by dsimp only; omega) (by simp [take_map_one])
        · rw [if_neg (by simp [h3])] at hc
          try simp [h1]
          repeat' (first
            | ((with_reducible refine PreK.intro ?_ ?_); (next => (first | omega | (intros; first | omega | (refine ⟨by omega, ?_⟩; repeat (first | assumption | constructor)) | assumption))); intro _; try simp [h1])
            | fail)
          exact hq (i + 1, ver + 1, false, acc ++ [el l i]) _ ⟨by dsimp only; omega, ⟨by simp; omega, by simp; try omega⟩, hn', by simpa using hc⟩ (by dsimp only; omega) (by simp [take_map_one])
      · simp only [if_true] at hc
        try simp [h1]
        repeat' (first
          | (refine CallX.pure (before_c w (el l i) hw) (by simp) (by simp) ?_; try simp [h1])
          | (refine CallK.intro (before_c w (el l i) hw) (by simp) (by simp) ?_; try simp [h1])
          | (refine CallG.intro (fun _ => before_c w (el l i) hw) (by simp) (by simp) ?_; try simp [h1])
          | ((with_reducible refine PreK.intro ?_ ?_); (next => (first | omega | (intros; first | omega | (refine ⟨by omega, ?_⟩; repeat (first | assumption | constructor)) | assumption))); intro _; try simp [h1])
          | fail)
        refine CondK.intro (fun h3 => ?_) (fun h3 => ?_)
        · simp at h3
        · try simp [h1]
          repeat' (first
            | ((with_reducible refine PreK.intro ?_ ?_); (next => (first | omega | (intros; first | omega | (refine ⟨by omega, ?_⟩; repeat (first | assumption | constructor)) | assumption))); intro _; try simp [h1])
            | fail)
          exact hq (i + 1, ver + 1, true, acc ++ [el l i]) _ ⟨by dsimp only; omega, ⟨by simp; omega, by simp; try omega⟩, hn', by simpa using hc⟩ (by dsimp only; omega) (by simp [take_map_one])
  · simp at h1
    have hil : i = l.length := by omega
    have hnot : w ∉ l := by
      intro hw2
      rw [List.take_of_length_le (by omega)] at hn
      exact hn w hw2 rfl
    have hRi : R = insW w l := by rw [← hR, putL, if_neg hnot]
    rw [List.drop_eq_nil_of_le (by omega)] at hc
    try simp 
    apply he
    cases done
    · simp [insW] at hc
      try simp 
      repeat' (first
        | ((with_reducible refine PreK.intro ?_ ?_); (next => (first | omega | (intros; first | omega | (refine ⟨by omega, ?_⟩; repeat (first | assumption | constructor)) | assumption))); intro _; try simp )
        | fail)
      refine CondK.intro (fun h3 => ?_) (fun h3 => ?_)
      · try simp 
        repeat' (first
          | ((with_reducible refine PreK.intro ?_ ?_); (next => (first | omega | (intros; first | omega | (refine ⟨by omega, ?_⟩; repeat (first | assumption | constructor)) | assumption))); intro _; try simp )
          | fail)
        simp [hRi, ← hc, take_map_one]
      · simp at h3
    · simp at hc
      try simp 
      repeat' (first
        | ((with_reducible refine PreK.intro ?_ ?_); (next => (first | omega | (intros; first | omega | (refine ⟨by omega, ?_⟩; repeat (first | assumption | constructor)) | assumption))); intro _; try simp )
        | fail)
      refine CondK.intro (fun h3 => ?_) (fun h3 => ?_)
      · simp at h3
      · try simp 
        repeat' (first
          | ((with_reducible refine PreK.intro ?_ ?_); (next => (first | omega | (intros; first | omega | (refine ⟨by omega, ?_⟩; repeat (first | assumption | constructor)) | assumption))); intro _; try simp )
          | fail)
        simp [hRi, ← hc, take_map_one]
theorem sameWords_c (a b : List (List Int)) (ha : a.length ≤ 1000) (hs : ∀ x ∈ a, x.length ≤ 1000) : CallP Tryz.prog 27 [wordsV a, wordsV b] (bv (decide (a = b))) := by
  refine C27 (by simp) ?_
  generalize hR : decide (a = b) = R
  simp [A27]
  refine CondK.intro (fun h => ?_) (fun h => ?_)
  · simp at h
    have : a ≠ b := fun e => h (by rw [e])
    simp [this] at hR
    simp [← hR]
  · simp at h
    try simp 
    refine LoopK.by (fun i : Nat => ⟨[(5, iv i), (0, wordsV a), (1, wordsV b)], []⟩) (fun i => a.length - i) (fun i => i ≤ a.length ∧ decide (a.drop i = b.drop i) = R) 0 (by simpa using hR) (by simp) ?_
    intro i Q' ⟨hi, hc⟩ hq he hr
    try simp 
    refine CondK.intro (fun h2 => ?_) (fun h2 => ?_)
    · simp at h2
      have h2b : i < b.length := by omega
      rw [drop_cons a i h2, drop_cons b i h2b] at hc
      have hxs := hs (el a i) (el_mem_of a i h2)
      try simp [h2, h2b]
      repeat' (first
        | (refine CallX.pure (sameInts_c (el a i) (el b i) (big_of (by omega))) (by simp) (by simp) ?_; try simp [h2, h2b])
        | (refine CallK.intro (sameInts_c (el a i) (el b i) (big_of (by omega))) (by simp) (by simp) ?_; try simp [h2, h2b])
        | (refine CallG.intro (fun _ => sameInts_c (el a i) (el b i) (big_of (by omega))) (by simp) (by simp) ?_; try simp [h2, h2b])
        | ((with_reducible refine PreK.intro ?_ ?_); (next => (first | omega | (intros; first | omega | (refine ⟨by omega, ?_⟩; repeat (first | assumption | constructor)) | assumption))); intro _; try simp [h2, h2b])
        | fail)
      refine CondK.intro (fun h3 => ?_) (fun h3 => ?_)
      · simp at h3
        simp [h3] at hc
        try simp 
        repeat' (first
          | ((with_reducible refine PreK.intro ?_ ?_); (next => (first | omega | (intros; first | omega | (refine ⟨by omega, ?_⟩; repeat (first | assumption | constructor)) | assumption))); intro _; try simp )
          | fail)
        apply hr
        simp [← hc]
      · simp at h3
        simp [h3] at hc
        try simp 
        repeat' (first
          | ((with_reducible refine PreK.intro ?_ ?_); (next => (first | omega | (intros; first | omega | (refine ⟨by omega, ?_⟩; repeat (first | assumption | constructor)) | assumption))); intro _; try simp )
          | fail)
        exact hq (i + 1) _ ⟨by omega, by simpa using hc⟩ (by omega) (by simp)
    · simp at h2
      rw [List.drop_eq_nil_of_le (by omega), List.drop_eq_nil_of_le (by omega)] at hc
      simp at hc
      try simp 
      apply he
      simp [← hc]
end Go.Proofs.YtkhddecnllcaiaaGreat
end

section
/- Contracts: Bases on both sides, and the statement OrderBases. -/
namespace Go.Proofs.YtkhddecnllcaiaaGreat
open Go.Abs Go
attribute [local simp] avsEq avEq akind teq vkind vEq

end Go.Proofs.YtkhddecnllcaiaaGreat
end

section
/- PURSE -/
/- Contracts: the document's Bases: a queue of words. -/
namespace Go.Proofs.YtkhddecnllcaiaaGreat
open Go.Abs Go
attribute [local simp] avsEq avEq akind teq vkind vEq

theorem todoN_num (snd len : Nat) : ∀ q : List (List Int), q.length ≤ todoN snd len q
  | [] => by simp [todoN]
  | w :: q => by
    have ih := todoN_num snd len q
    have : 1 ≤ treeN snd (len - w.length) := by
      cases len - w.length with
      | zero => simp [treeN]
      | succ d => simp only [treeN]; omega
    simp only [todoN, List.length_cons]
    omega
theorem putL_num (l : List (List Int)) (w : List Int) : (putL l w).length ≤ l.length + 1 := by
  have h : ∀ l : List (List Int), (insW w l).length = l.length + 1 := by
    intro l
    induction l with
    | nil => rfl
    | cons x l ih =>
      rw [insW]
      split
      · simp
      · simp [ih]
  unfold putL
  split
  · omega
  · rw [h]; omega
/-- A queue at a place: what is still to be visited. -/
structure Queue (snd len : Nat) (p : List Int → Bool) (R : List (List Int)) (i : Nat) (ws out : List (List Int)) : Prop where
  todo : todoN snd len (ws.drop i) + i ≤ 121
  here : i ≤ ws.length
  num : out.length ≤ i
  small : ∀ x ∈ ws, x.length ≤ len
  osmall : ∀ x ∈ out, x.length ≤ len
  rest : putsL p out (visitM snd len (121 - i) (ws.drop i)) = R
theorem Queue.len {snd len : Nat} {p : List Int → Bool} {R : List (List Int)} {i : Nat} {ws out : List (List Int)} (h : Queue snd len p R i ws out) : ws.length ≤ 121 := by
  have h1 := h.todo
  have h2 := todoN_num snd len (ws.drop i)
  have h3 := h.here
  simp at h2
  omega
theorem Queue.done {snd len : Nat} {p : List Int → Bool} {R : List (List Int)} {i : Nat} {ws out : List (List Int)} (h : Queue snd len p R i ws out) (hi : ws.length ≤ i) : out = R := by
  have := h.rest
  rw [List.drop_eq_nil_of_le hi] at this
  cases h0 : 121 - i with
  | zero => rw [h0] at this; simpa [visitM, putsL] using this
  | succ k => rw [h0] at this; simpa [visitM, putsL] using this
theorem Queue.step {snd len : Nat} {p : List Int → Bool} {R : List (List Int)} {i : Nat} {ws out : List (List Int)} (h : Queue snd len p R i ws out) (hi : i < ws.length) :
    Queue snd len p R (i + 1) (ws ++ if (el ws i).length < len then kidF (el ws i) 0 snd else []) (if p (el ws i) then putL out (el ws i) else out) := by
  have h1 := h.todo
  have h6 := h.rest
  rw [drop_cons ws i hi] at h1 h6
  have h2 := todoN_step snd len (el ws i) (ws.drop (i + 1))
  have hm := el_mem_of ws i hi
  have e : (ws ++ if (el ws i).length < len then kidF (el ws i) 0 snd else []).drop (i + 1) = ws.drop (i + 1) ++ if (el ws i).length < len then kidsM snd (el ws i) else [] := by
    rw [List.drop_append_of_le_length (by omega), kidF_all]
  obtain ⟨k, hk⟩ : ∃ k, 121 - i = k + 1 := ⟨120 - i, by omega⟩
  rw [hk, visitM, putsL] at h6
  refine ⟨by rw [e]; omega, by simp; omega, ?_, fun x hx => ?_, fun x hx => ?_, by rw [e, show 121 - (i + 1) = k by omega]; exact h6⟩
  · have := h.num
    split
    · have := putL_num out (el ws i); omega
    · omega
  · rcases List.mem_append.1 hx with hx | hx
    · exact h.small x hx
    · split at hx
      · rw [kidF_all] at hx
        simp only [kidsM, List.mem_map] at hx
        obtain ⟨_, _, rfl⟩ := hx
        simp; omega
      · cases hx
  · split at hx
    · rcases mem_putL.1 hx with rfl | hx
      · exact h.small _ hm
      · exact h.osmall x hx
    · exact h.osmall x hx
end Go.Proofs.YtkhddecnllcaiaaGreat
end

section
/- The statement OrderBases as a contract. -/
namespace Go.Proofs.YtkhddecnllcaiaaGreat
open Go.Abs Go
attribute [local simp] avsEq avEq akind teq vkind vEq

@[simp] def sizeV (p : Int × Int) : AV := .agg [iv p.1, iv p.2]
end Go.Proofs.YtkhddecnllcaiaaGreat
end

section
/- Plain: the forms by all orders. -/
namespace Go.Proofs.YtkhddecnllcaiaaGreat
open Go.Abs Go

/-- The forms by lists of grounds, of those that have one. -/
def formsM (s : List Rule) (w : List Int) : List (List Int) → List Word
  | [] => []
  | g :: l => if (deriveR s g 60 w).2.2 then (deriveR s g 60 w).2.1 :: formsM s w l else formsM s w l
theorem formsM_mem {s : List Rule} {w x : List Int} : ∀ {l : List (List Int)}, x ∈ formsM s w l ↔ ∃ g ∈ l, (deriveR s g 60 w).2.2 = true ∧ (deriveR s g 60 w).2.1 = x
  | [] => by simp [formsM]
  | g :: l => by
    rw [formsM]
    split
    · rename_i h
      simp only [List.mem_cons, formsM_mem (l := l)]
      constructor
      · rintro (rfl | ⟨g', h1, h2⟩)
        · exact ⟨g, .inl rfl, h, rfl⟩
        · exact ⟨g', .inr h1, h2⟩
      · rintro ⟨g', rfl | h1, h2, h3⟩
        · exact .inl h3.symm
        · exact .inr ⟨g', h1, h2, h3⟩
    · rename_i h
      simp only [List.mem_cons, formsM_mem (l := l)]
      constructor
      · rintro ⟨g', h1, h2⟩
        exact ⟨g', .inr h1, h2⟩
      · rintro ⟨g', rfl | h1, h2, h3⟩
        · exact absurd h2 h
        · exact ⟨g', h1, h2, h3⟩
theorem formsM_len (s : List Rule) (w : List Int) : ∀ l : List (List Int), (formsM s w l).length ≤ l.length
  | [] => Nat.le_refl 0
  | g :: l => by
    have := formsM_len s w l
    rw [formsM]
    split
    · simp; omega
    · simp; omega
theorem formsM_words {s : List Rule} {w : List Int} (hw : w.length ≤ 1000) {l : List (List Int)} : ∀ x ∈ formsM s w l, x.length ≤ 1000 := by
  intro x hx
  obtain ⟨g, _, _, rfl⟩ := formsM_mem.1 hx
  exact deriveR_len s g 60 w hw
def putsA : List Word → List Word → List Word
  | acc, [] => acc
  | acc, x :: l => putsA (putL acc x) l
theorem putsA_spec : ∀ (l acc : List Word), sortedW acc → sortedW (putsA acc l) ∧ ∀ z, z ∈ putsA acc l ↔ z ∈ acc ∨ z ∈ l
  | [], acc, h => ⟨h, fun z => by simp [putsA]⟩
  | x :: l, acc, h => by
    obtain ⟨h1, h2⟩ := putsA_spec l (putL acc x) (putL_sorted h)
    refine ⟨h1, fun z => ?_⟩
    rw [putsA, h2, mem_putL, List.mem_cons]
    constructor
    · rintro ((h | h) | h)
      · exact .inr (.inl h)
      · exact .inl h
      · exact .inr (.inr h)
    · rintro (h | h | h)
      · exact .inl (.inr h)
      · exact .inl (.inl h)
      · exact .inr h
theorem uniq_puts (l : List Word) : uniq l = putsA [] l := by
  obtain ⟨h1, h2⟩ := uniq_sorted l
  obtain ⟨h3, h4⟩ := putsA_spec l [] List.Pairwise.nil
  exact sorted_eq h1 h3 fun z => by rw [h2, h4]; simp
def FormsR (s : List Rule) (w : List Int) : List Word × Int := if swErr s w ≠ 0 then ([], swErr s w) else (uniq (formsM s w (ordersM 4 [])), 0)
theorem dups_nodup : ∀ {r seen : List Int}, dups seen r = false → r.Nodup ∧ ∀ x ∈ r, x ∉ seen
  | [], seen, _ => ⟨List.nodup_nil, fun x hx => by cases hx⟩
  | y :: r, seen, h => by
    simp only [dups, Bool.or_eq_false_iff] at h
    obtain ⟨h1, h2⟩ := dups_nodup h.2
    have hy : y ∉ seen := by simpa using h.1
    refine ⟨List.nodup_cons.2 ⟨fun hm => h2 y hm (by simp), h1⟩, fun x hx => ?_⟩
    rcases List.mem_cons.1 hx with rfl | hx
    · exact hy
    · exact fun hm => h2 x hx (by simp [hm])
theorem forms_has {s : List Rule} {w gs : List Int} (h : (DeriveR s w gs).2.2 = 0) (h4 : gs.length = 4) : (DeriveR s w gs).2.1 ∈ (FormsR s w).1 := by
  unfold DeriveR at h ⊢
  by_cases ho : orderErr s w gs = 0
  · rw [if_neg (by simp [ho])] at h ⊢
    cases hd : (deriveR s gs 60 w).2.2 with
    | false => rw [hd] at h; simp at h
    | true =>
      rw [if_pos rfl]
      have hsw : swErr s w = 0 := by
        unfold orderErr at ho
        split at ho
        · rename_i h1; exact absurd ho h1
        · rename_i h1; simpa using h1
      have hg : gErr gs = 0 := by
        unfold orderErr at ho
        rw [if_neg (by simp [hsw])] at ho
        exact ho
      unfold FormsR
      rw [if_neg (by simp [hsw])]
      show _ ∈ uniq _
      rw [(uniq_sorted _).2, formsM_mem]
      refine ⟨gs, ?_, hd, rfl⟩
      have hok := gErr_ok hg
      have hnd : gs.Nodup := by
        unfold gErr at hg
        rw [if_neg (by omega)] at hg
        split at hg
        · cases hg
        · split at hg
          · cases hg
          · rename_i h2
            exact (dups_nodup (by simpa using h2)).1
      have := orders_mem 4 [] gs h4 (fun x hx => by rcases hok x hx with h | h | h | h <;> omega) (by simpa using hnd)
      simpa using this
  · rw [if_pos ho] at h
    exact absurd h ho
end Go.Proofs.YtkhddecnllcaiaaGreat
end

section
/- Contracts: the forms by all orders; the statement OrderForms. -/
namespace Go.Proofs.YtkhddecnllcaiaaGreat
open Go.Abs Go
set_option maxRecDepth 20000
set_option maxHeartbeats 2000000
attribute [local irreducible] PreK CondK CallK CallG CallX LoopK
attribute [local simp] avsEq avEq akind teq vkind vEq

def okOrders : Bool := (ordersM 4 []).all fun g => decide (g.length = 4) && g.all fun x => decide (x = 1) || decide (x = 2) || decide (x = 3) || decide (x = 4)
theorem okOrders_true : okOrders = true := by kernel_rfl
theorem orders_ok : ∀ g ∈ ordersM 4 [], g.length = 4 ∧ gOK g := by
  intro g hg
  have h := okOrders_true
  unfold okOrders at h
  rw [List.all_eq_true] at h
  have h1 := h g hg
  simp only [Bool.and_eq_true, decide_eq_true_eq, List.all_eq_true, Bool.or_eq_true] at h1
  refine ⟨h1.1, fun x hx => ?_⟩
  have := h1.2 x hx
  omega
theorem orders_num : (ordersM 4 []).length ≤ 256 := ordersM_len 4 []
theorem Forms_c (s : List Rule) (w : List Int) (hs : Sys.small s) (hw : w.length ≤ 1000) : CallP Tryz.prog 25 [rulesV s, ints w] (.tup [wordsV (FormsR s w).1, iv (FormsR s w).2]) := by
  refine C25 (by simp) ?_
  have hck := ocheck0_c s w hs hw
  simp [A25]
  refine CallX.pure (CallP.weak (by simpa [weakL, weak] using hck)) (by simp) (by simp) ?_
  try simp 
  refine CondK.intro (fun h1 => ?_) (fun h1 => ?_)
  · simp at h1
    simp [FormsR, h1]
  · simp at h1
    have hor := orders_c 4 [] (by simp)
    have hok := orders_ok
    have hnum := orders_num
    unfold FormsR
    rw [if_neg (by simp [h1])]
    generalize ordersM 4 [] = W at hor hok hnum
    generalize hF : formsM s w W = F
    try simp 
    refine CallX.pure (CallP.weak (by simpa [weakL, weak] using hor)) (by simp) (by simp) ?_
    try simp 
    refine LoopK.by (ι := Nat × Nat × List Word) (fun x => ⟨[(0, rulesV s), (1, ints w), (21, iv x.1), (20, iv W.length), (19, wordsV W), (7, .sl 7 x.2.1 0 x.2.2.length)], [(7, some ⟨1, x.2.2.map ints, x.2.1, false⟩)]⟩) (fun x => W.length - x.1)
      (fun x => x.1 ≤ W.length ∧ x.2.2.length ≤ x.1 ∧ (∀ y ∈ x.2.2, y.length ≤ 1000) ∧ x.2.2 ++ formsM s w (W.drop x.1) = F) (0, 1, []) (by simpa using hF) (by simp) ?_
    intro ⟨i, v, k⟩ Q' ⟨hi, hk, hk8, hc⟩ hq he hr
    dsimp only at hi hk hk8 hc
    try simp 
    refine CondK.intro (fun h2 => ?_) (fun h2 => ?_)
    · simp at h2
      obtain ⟨g4, gok⟩ := hok _ (el_mem_of W i h2)
      have hd := derive_c s w (el W i) hs hw gok (by omega)
      have hdl := deriveR_len s (el W i) 60 w hw
      rw [drop_cons W i h2, formsM] at hc
      generalize deriveR s (el W i) 60 w = D at hd hdl hc
      obtain ⟨D1, D2, D3⟩ := D
      dsimp only at hd hdl hc
      try simp [h2]
      repeat' (first
        | (refine CallX.pure (hd) (by simp) (by simp) ?_; try simp [h2])
        | (refine CallK.intro (hd) (by simp) (by simp) ?_; try simp [h2])
        | (refine CallG.intro (fun _ => hd) (by simp) (by simp) ?_; try simp [h2])
        | ((with_reducible refine PreK.intro ?_ ?_); (next => (first | omega | (intros; first | omega | (refine ⟨by omega, ?_⟩; repeat (first | assumption | constructor)) | assumption))); intro _; try simp [h2])
        | fail)
      cases D3 with
      | true =>
        simp only [if_true] at hc
        refine CondK.intro (fun h3 => ?_) (fun h3 => ?_)
        · repeat (refine PreK.intro (by first | omega | (intros; first | omega | (refine ⟨by omega, ?_⟩; simp_all; done) | (simp_all; done) | (simp_all; omega))) fun _ => ?_; (try simp [h2]))
          refine hq (i + 1, v + 1, k ++ [D2]) _ ⟨by dsimp only; omega, by simp; omega, fun y hy => ?_, by simpa using hc⟩ (by dsimp only; omega) (by simp)
          rcases List.mem_append.1 hy with hy | hy
          · exact hk8 y hy
          · simp only [List.mem_singleton] at hy
            subst hy; exact hdl
        · simp at h3
      | false =>
        simp only [Bool.false_eq_true, if_false] at hc
        refine CondK.intro (fun h3 => ?_) (fun h3 => ?_)
        · simp at h3
        · repeat (refine PreK.intro (by first | omega | (intros; first | omega | (refine ⟨by omega, ?_⟩; simp_all; done) | (simp_all; done) | (simp_all; omega))) fun _ => ?_; (try simp [h2]))
          exact hq (i + 1, v, k) _ ⟨by dsimp only; omega, by dsimp only; omega, hk8, hc⟩ (by dsimp only; omega) (by simp)
    · simp at h2
      rw [List.drop_eq_nil_of_le (by omega)] at hc
      simp only [formsM, List.append_nil] at hc
      subst hc
      try simp 
      apply he
      have h3 : CallL Tryz.prog 58 [] 1 (k.map ints) [.fn 59 [] []] (.val (.tup [])) ((sortW k).map ints) := callL_sort lsort Compare_c k
      have h4 := compact_L (sortW k) (by rw [sortW_len]; omega) (fun w h => hk8 w ((sortW_perm k).mem_iff.1 h))
      have hsl := sortW_len k
      have hnum2 : (compW (sortW k)).length ≤ k.length := by
        rw [← hsl]
        cases sortW k with
        | nil => simp [compW]
        | cons x m => simp only [compW, List.length_cons]; have := compF_num x m; omega
      unfold uniq
      generalize sortW k = s' at h3 h4 hsl hnum2
      generalize compW s' = c at h4 hnum2
      try simp 
      refine CallX.lend [] (id := 7) (ver := v) (n := k.length) (b := ⟨1, k.map ints, v, false⟩) [.fn 59 [] []] (.val (.tup [])) _ (by simp) (by simp) (by simp) (by simp) (by simp) (by simp) (by simp) (by simpa using h3) ?_
      try simp 
      refine CallX.lend [] (id := 7) (ver := v) (n := k.length) (b := ⟨1, s'.map ints, v, false⟩) [.fn 49 [] []] (.part c.length) _ (by simp) (by simp) (by simp) (by simp) (by simp [hsl]) (by simp) (by simp) (by simpa using h4) ?_
      simp [hsl]
theorem weakL_ints (t : List (List Int)) : weakL (t.map ints) = t.map ints := by
  induction t with
  | nil => rfl
  | cons x t ih => simp only [List.map_cons, weakL, ints, weak, weakL_iv] at ih ⊢; rw [ih]
theorem putsA_len : ∀ (l acc : List Word), (putsA acc l).length ≤ acc.length + l.length
  | [], acc => by simp [putsA]
  | x :: l, acc => by
    have h1 := putsA_len l (putL acc x)
    have h2 : (putL acc x).length ≤ acc.length + 1 := by
      unfold putL
      split
      · omega
      · have : ∀ l : List (List Int), (insW x l).length = l.length + 1 := by
          intro l
          induction l with
          | nil => rfl
          | cons y l ih => simp only [insW]; split <;> simp [ih]
        rw [this]; omega
    simp only [putsA, List.length_cons]; omega
theorem rForms_c (s : List Rule) (w : List Int) (hs : Sys.small s) (hw : w.length ≤ 1000) : CallP Tryz.prog 26 [rulesV s, ints w] (.tup [wordsV (FormsR s w).1, iv (FormsR s w).2]) := by
  refine C26 (by simp) ?_
  have hck := rword_c s w hs hw
  simp [A26]
  try simp 
  repeat' (first
    | (refine CallX.pure (hck) (by simp) (by simp) ?_; try simp )
    | (refine CallK.intro (hck) (by simp) (by simp) ?_; try simp )
    | (refine CallG.intro (fun _ => hck) (by simp) (by simp) ?_; try simp )
    | ((with_reducible refine PreK.intro ?_ ?_); (next => (first | omega | (intros; first | omega | (refine ⟨by omega, ?_⟩; repeat (first | assumption | constructor)) | assumption))); intro _; try simp )
    | fail)
  refine CondK.intro (fun h1 => ?_) (fun h1 => ?_)
  · simp at h1
    simp [FormsR, h1]
  · simp at h1
    have hor := rorders_c
    have hok := orders_ok
    have hnum := orders_num
    unfold FormsR
    rw [if_neg (by simp [h1])]
    generalize ordersM 4 [] = W at hor hok hnum
    rw [uniq_puts]
    generalize hF : putsA [] (formsM s w W) = F
    try simp 
    try simp 
    repeat' (first
      | (refine CallX.pure (hor) (by simp) (by simp) ?_; try simp )
      | (refine CallK.intro (hor) (by simp) (by simp) ?_; try simp )
      | (refine CallG.intro (fun _ => hor) (by simp) (by simp) ?_; try simp )
      | ((with_reducible refine PreK.intro ?_ ?_); (next => (first | omega | (intros; first | omega | (refine ⟨by omega, ?_⟩; repeat (first | assumption | constructor)) | assumption))); intro _; try simp )
      | fail)
    refine LoopK.by (ι := Bool × Nat × List Word) (fun x => match x.1 with
        | true => ⟨[(0, rulesV s), (1, ints w), (9, iv x.2.1), (7, wordsV W), (8, .sl 8 1 0 0)], [(8, some ⟨1, [], 1, false⟩)]⟩
        | false => ⟨[(0, rulesV s), (1, ints w), (9, iv x.2.1), (7, wordsV W), (8, wordsV x.2.2)], []⟩) (fun x => W.length - x.2.1)
      (fun x => x.2.1 ≤ W.length ∧ x.2.2.length ≤ x.2.1 ∧ (x.1 = true → x.2.2 = []) ∧ (∀ y ∈ x.2.2, y.length ≤ 1000) ∧ putsA x.2.2 (formsM s w (W.drop x.2.1)) = F) (true, 0, []) (by simpa using hF) (by simp) ?_
    intro ⟨b, i, k⟩ Q' ⟨hi, hk, hb, hk8, hc⟩ hq he hr
    dsimp only at hi hk hb hk8 hc
    cases b
    · try simp 
      refine CondK.intro (fun h2 => ?_) (fun h2 => ?_)
      · simp at h2
        obtain ⟨g4, gok⟩ := hok _ (el_mem_of W i h2)
        have hd := rderive_c s w (el W i) hs hw gok (by omega)
        have hdl := deriveR_len s (el W i) 60 w hw
        rw [drop_cons W i h2, formsM] at hc
        generalize deriveR s (el W i) 60 w = D at hd hdl hc
        obtain ⟨D1, D2, D3⟩ := D
        dsimp only at hd hdl hc
        try simp [h2]
        repeat' (first
          | (refine CallX.pure (hd) (by simp) (by simp) ?_; try simp [h2])
          | (refine CallK.intro (hd) (by simp) (by simp) ?_; try simp [h2])
          | (refine CallG.intro (fun _ => hd) (by simp) (by simp) ?_; try simp [h2])
          | ((with_reducible refine PreK.intro ?_ ?_); (next => (first | omega | (intros; first | omega | (refine ⟨by omega, ?_⟩; repeat (first | assumption | constructor)) | assumption))); intro _; try simp [h2])
          | fail)
        cases D3 with
        | true =>
          simp only [if_true, putsA] at hc
          have hpl : (putL k D2).length ≤ k.length + 1 := by
            have := putsA_len [D2] k
            simpa [putsA] using this
          have hwp := wput_c k D2 (by omega) hk8 hdl
          refine CondK.intro (fun h3 => ?_) (fun h3 => ?_)
          · try simp 
            refine CallX.pure (CallP.weak (by simpa [weakL, weak, weakL_ints] using hwp)) (by simp) (by simp) ?_
            try simp 
            repeat (refine PreK.intro (by first | omega | (intros; first | omega | (refine ⟨by omega, ?_⟩; simp_all; done) | (simp_all; done) | (simp_all; omega))) fun _ => ?_; (try simp [h2]))
            refine hq (false, i + 1, putL k D2) _ ⟨by dsimp only; omega, by dsimp only; omega, fun h => by simp at h, fun y hy => ?_, hc⟩ (by dsimp only; omega) (by simp)
            rcases mem_putL.1 hy with rfl | hy
            · exact hdl
            · exact hk8 y hy
          · simp at h3
        | false =>
          simp only [Bool.false_eq_true, if_false] at hc
          refine CondK.intro (fun h3 => ?_) (fun h3 => ?_)
          · simp at h3
          · repeat (refine PreK.intro (by first | omega | (intros; first | omega | (refine ⟨by omega, ?_⟩; simp_all; done) | (simp_all; done) | (simp_all; omega))) fun _ => ?_; (try simp [h2]))
            exact hq (false, i + 1, k) _ ⟨by dsimp only; omega, by dsimp only; omega, fun h => by simp at h, hk8, hc⟩ (by dsimp only; omega) (by simp)
      · simp at h2
        rw [List.drop_eq_nil_of_le (by omega)] at hc
        simp only [formsM, putsA] at hc
        subst hc
        try simp 
        apply he
        try simp 
    · have hk0 : k = [] := hb rfl
      try simp 
      refine CondK.intro (fun h2 => ?_) (fun h2 => ?_)
      · simp at h2
        obtain ⟨g4, gok⟩ := hok _ (el_mem_of W i h2)
        have hd := rderive_c s w (el W i) hs hw gok (by omega)
        have hdl := deriveR_len s (el W i) 60 w hw
        rw [drop_cons W i h2, formsM] at hc
        generalize deriveR s (el W i) 60 w = D at hd hdl hc
        obtain ⟨D1, D2, D3⟩ := D
        dsimp only at hd hdl hc
        try simp [h2]
        repeat' (first
          | (refine CallX.pure (hd) (by simp) (by simp) ?_; try simp [h2])
          | (refine CallK.intro (hd) (by simp) (by simp) ?_; try simp [h2])
          | (refine CallG.intro (fun _ => hd) (by simp) (by simp) ?_; try simp [h2])
          | ((with_reducible refine PreK.intro ?_ ?_); (next => (first | omega | (intros; first | omega | (refine ⟨by omega, ?_⟩; repeat (first | assumption | constructor)) | assumption))); intro _; try simp [h2])
          | fail)
        cases D3 with
        | true =>
          simp only [if_true, putsA] at hc
          have hpl : (putL k D2).length ≤ k.length + 1 := by
            have := putsA_len [D2] k
            simpa [putsA] using this
          have hwp : CallP Tryz.prog 63 [.seq 1 [] false, ints D2] (wordsV (putL k D2)) := by
            have := wput_c k D2 (by omega) hk8 hdl
            rw [hk0] at this ⊢
            simpa using this
          refine CondK.intro (fun h3 => ?_) (fun h3 => ?_)
          · try simp 
            refine CallX.frz 8 (b := ⟨1, [], 1, false⟩) (by simp) (by simp) ?_
            try simp 
            refine CallX.pure (by simpa using hwp) (by simp) (by simp) ?_
            try simp 
            repeat (refine PreK.intro (by first | omega | (intros; first | omega | (refine ⟨by omega, ?_⟩; simp_all; done) | (simp_all; done) | (simp_all; omega))) fun _ => ?_; (try simp [h2]))
            refine hq (false, i + 1, putL k D2) _ ⟨by dsimp only; omega, by dsimp only; omega, fun h => by simp at h, fun y hy => ?_, hc⟩ (by dsimp only; omega) (by simp)
            rcases mem_putL.1 hy with rfl | hy
            · exact hdl
            · exact hk8 y hy
          · simp at h3
        | false =>
          simp only [Bool.false_eq_true, if_false] at hc
          refine CondK.intro (fun h3 => ?_) (fun h3 => ?_)
          · simp at h3
          · repeat (refine PreK.intro (by first | omega | (intros; first | omega | (refine ⟨by omega, ?_⟩; simp_all; done) | (simp_all; done) | (simp_all; omega))) fun _ => ?_; (try simp [h2]))
            exact hq (true, i + 1, k) _ ⟨by dsimp only; omega, by dsimp only; omega, hb, hk8, hc⟩ (by dsimp only; omega) (by simp)
      · simp at h2
        rw [List.drop_eq_nil_of_le (by omega)] at hc
        simp only [formsM, putsA] at hc
        rw [hk0] at hc
        subst hc
        try simp 
        apply he
        try simp 
theorem FormsR_small (s : List Rule) (w : List Int) (hw : w.length ≤ 1000) : (FormsR s w).1.length ≤ 256 ∧ ∀ y ∈ (FormsR s w).1, y.length ≤ 1000 := by
  unfold FormsR
  split
  · exact ⟨by simp, fun y hy => by cases hy⟩
  · refine ⟨?_, fun y hy => ?_⟩
    · have h1 := uniq_len (formsM s w (ordersM 4 []))
      have h2 := formsM_len s w (ordersM 4 [])
      have h3 := orders_num
      dsimp only
      omega
    · dsimp only at hy
      rw [(uniq_sorted _).2] at hy
      exact formsM_words hw y hy
theorem lawOrderForms_c (x : Case) (hb : x.rules.length ≤ big) : CallP Tryz.prog 5 [caseV x] (bv true) := by
  refine C5 (by simp) ?_
  simp [A5]
  refine CallX.pure (by simpa using Long_c x hb) (by simp) (by simp) ?_
  try simp 
  refine CondK.intro (fun h1 => ?_) (fun h1 => ?_)
  · try simp 
    repeat' (first
      | (refine CallX.pure (sane_c) (by simp) (by simp) ?_; try simp )
      | (refine CallK.intro (sane_c) (by simp) (by simp) ?_; try simp )
      | (refine CallG.intro (fun _ => sane_c) (by simp) (by simp) ?_; try simp )
      | ((with_reducible refine PreK.intro ?_ ?_); (next => (first | omega | (intros; first | omega | (refine ⟨by omega, ?_⟩; repeat (first | assumption | constructor)) | assumption))); intro _; try simp )
      | fail)
  · try simp at h1
    obtain ⟨hs, hw, hg, _⟩ := longC_small h1
    have hF1 := Forms_c x.rules x.word hs hw
    have hF2 := rForms_c x.rules x.word hs hw
    obtain ⟨f1, f2⟩ := FormsR_small x.rules x.word hw
    have hF := Form_c x.rules x.word x.grounds hs hw hg
    have hhas : (DeriveR x.rules x.word x.grounds).2.2 = 0 → x.grounds.length = 4 → (DeriveR x.rules x.word x.grounds).2.1 ∈ (FormsR x.rules x.word).1 := forms_has
    generalize FormsR x.rules x.word = B at hF1 hF2 f1 f2 hhas
    obtain ⟨A, E⟩ := B
    generalize DeriveR x.rules x.word x.grounds = D at hF hhas
    obtain ⟨D1, D2, D3⟩ := D
    dsimp only at hF1 hF2 f1 f2 hF hhas
    have hsw := sameWords_c A A (by omega) f2
    try simp 
    repeat' (first
      | (refine CallX.pure (hF1) (by simp) (by simp) ?_; try simp )
      | (refine CallK.intro (hF1) (by simp) (by simp) ?_; try simp )
      | (refine CallG.intro (fun _ => hF1) (by simp) (by simp) ?_; try simp )
      | (refine CallX.pure (hF2) (by simp) (by simp) ?_; try simp )
      | (refine CallK.intro (hF2) (by simp) (by simp) ?_; try simp )
      | (refine CallG.intro (fun _ => hF2) (by simp) (by simp) ?_; try simp )
      | (refine CallX.pure (hsw) (by simp) (by simp) ?_; try simp )
      | (refine CallK.intro (hsw) (by simp) (by simp) ?_; try simp )
      | (refine CallG.intro (fun _ => hsw) (by simp) (by simp) ?_; try simp )
      | ((with_reducible refine PreK.intro ?_ ?_); (next => (first | omega | (intros; first | omega | (refine ⟨by omega, ?_⟩; repeat (first | assumption | constructor)) | assumption))); intro _; try simp )
      | fail)
    refine CondK.intro (fun h2 => ?_) (fun h2 => ?_)
    · simp at h2
    · try simp 
      repeat' (first
        | (refine CallX.pure (hF) (by simp) (by simp) ?_; try simp )
        | (refine CallK.intro (hF) (by simp) (by simp) ?_; try simp )
        | (refine CallG.intro (fun _ => hF) (by simp) (by simp) ?_; try simp )
        | ((with_reducible refine PreK.intro ?_ ?_); (next => (first | omega | (intros; first | omega | (refine ⟨by omega, ?_⟩; repeat (first | assumption | constructor)) | assumption))); intro _; try simp )
        | fail)
      refine CondK.intro (fun h3 => ?_) (fun h3 => ?_)
      · try simp 
        repeat' (first
          | (refine CallX.pure (sane_c) (by simp) (by simp) ?_; try simp )
          | (refine CallK.intro (sane_c) (by simp) (by simp) ?_; try simp )
          | (refine CallG.intro (fun _ => sane_c) (by simp) (by simp) ?_; try simp )
          | ((with_reducible refine PreK.intro ?_ ?_); (next => (first | omega | (intros; first | omega | (refine ⟨by omega, ?_⟩; repeat (first | assumption | constructor)) | assumption))); intro _; try simp )
          | fail)
      · simp at h3
        try simp 
        refine LoopK.by (fun i : Nat => ⟨[(9, iv i), (3, wordsV A), (7, ints D2)], []⟩) (fun i => A.length - i) (fun i => i ≤ A.length ∧ D2 ∈ A.drop i) 0 ⟨Nat.zero_le _, by simpa using hhas h3.1 (by have := h3.2; omega)⟩ (by simp) ?_
        intro i Q' ⟨hi, hin⟩ hq he hr
        try simp 
        refine CondK.intro (fun h4 => ?_) (fun h4 => ?_)
        · simp at h4
          have hsi := sameInts_c (el A i) D2 (big_of (f2 _ (el_mem_of A i h4)))
          rw [drop_cons A i h4] at hin
          try simp [h4]
          repeat' (first
            | (refine CallX.pure (hsi) (by simp) (by simp) ?_; try simp [h4])
            | (refine CallK.intro (hsi) (by simp) (by simp) ?_; try simp [h4])
            | (refine CallG.intro (fun _ => hsi) (by simp) (by simp) ?_; try simp [h4])
            | ((with_reducible refine PreK.intro ?_ ?_); (next => (first | omega | (intros; first | omega | (refine ⟨by omega, ?_⟩; repeat (first | assumption | constructor)) | assumption))); intro _; try simp [h4])
            | fail)
          refine CondK.intro (fun h5 => ?_) (fun h5 => ?_)
          · try simp 
            repeat' (first
              | (refine CallX.pure (sane_c) (by simp) (by simp) ?_; try simp )
              | (refine CallK.intro (sane_c) (by simp) (by simp) ?_; try simp )
              | (refine CallG.intro (fun _ => sane_c) (by simp) (by simp) ?_; try simp )
              | ((with_reducible refine PreK.intro ?_ ?_); (next => (first | omega | (intros; first | omega | (refine ⟨by omega, ?_⟩; repeat (first | assumption | constructor)) | assumption))); intro _; try simp )
              | fail)
            apply hr
            try simp 
          · simp at h5
            try simp 
            repeat' (first
              | ((with_reducible refine PreK.intro ?_ ?_); (next => (first | omega | (intros; first | omega | (refine ⟨by omega, ?_⟩; repeat (first | assumption | constructor)) | assumption))); intro _; try simp )
              | fail)
            refine hq (i + 1) _ ⟨by omega, ?_⟩ (by omega) (by simp)
            rcases List.mem_cons.1 hin with e | e
            · exact absurd e.symm h5
            · exact e
        · simp at h4
          rw [List.drop_eq_nil_of_le (by omega)] at hin
          cases hin
end Go.Proofs.YtkhddecnllcaiaaGreat
end
