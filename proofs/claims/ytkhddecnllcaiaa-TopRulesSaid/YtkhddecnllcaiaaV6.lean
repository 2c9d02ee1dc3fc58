/- Part 6 of the proof: the value layer and the contracts of the functions that the statement reaches; proved without conditions beyond those each theorem states. -/
import Derived.Test.YtkhddecnllcaiaaV5
set_option linter.unusedSimpArgs false
set_option linter.unusedVariables false

section
/- Contracts: rules that can meet, the first place, a rule at all places (for TopRules). -/
namespace Go.Proofs.Ytkhddecnllcaiaa
open Go.Abs Go
set_option maxRecDepth 20000
set_option maxHeartbeats 2000000
attribute [local irreducible] PreK CondK CallK CallG CallX LoopK
attribute [local simp] avsEq avEq akind teq vkind vEq

theorem some_or (a b : List Int) : someM a b = ((mayS a (-1) && mayS b (-1)) || ((mayS a 0 && mayS b 0) || ((mayS a 1 && mayS b 1) || ((mayS a 2 && mayS b 2) || ((mayS a 3 && mayS b 3) || ((mayS a 4 && mayS b 4) || (mayS a 5 && mayS b 5))))))) := by
  unfold someM mayAll
  simp only [List.any_cons, List.any_nil, Bool.or_false]
theorem or7 (a0 a1 a2 a3 a4 a5 a6 : Bool) (h : a0 = false → a1 = false → a2 = false → a3 = false → a4 = false → a5 = false → a6 = true) : a0 = true ∨ a1 = true ∨ a2 = true ∨ a3 = true ∨ a4 = true ∨ a5 = true ∨ a6 = true := by
  cases a0 <;> cases a1 <;> cases a2 <;> cases a3 <;> cases a4 <;> cases a5 <;> simp_all
theorem dm7 (f a0 a1 a2 a3 a4 a5 a6 b0 b1 b2 b3 b4 b5 b6 : Bool) : (!f || !a0 && (!a1 && (!a2 && (!a3 && (!a4 && (!a5 && !a6))))) || !b0 && (!b1 && (!b2 && (!b3 && (!b4 && (!b5 && !b6)))))) =
    !(f && ((a0 || (a1 || (a2 || (a3 || (a4 || (a5 || a6)))))) && (b0 || (b1 || (b2 || (b3 || (b4 || (b5 || b6)))))))) := by
  simp only [Bool.not_and, Bool.not_or, Bool.or_assoc]
def meetL (r s : Rule) (a b : List Int) : List Int := if (decide (twoErr r s = 0) && meetM r s) = true then setG 0 (andL a b) else []
theorem Both_c (r s : Rule) (h : r.small) (h2 : s.small) : CallP Try.prog 51 [ruleV r, ruleV s] (.tup [ints (meetL r s r.left s.left), ints (meetL r s r.right s.right), bv (decide (twoErr r s = 0) && meetM r s), iv (twoErr r s)]) := by
  refine C51 (by simp) ?_
  have c1 := two_c r s h h2
  have c2 := both_c r s h h2
  have c3 := set_c (mayS r.left (-1) && mayS s.left (-1)) (mayS r.left 0 && mayS s.left 0) (mayS r.left 1 && mayS s.left 1) (mayS r.left 2 && mayS s.left 2) (mayS r.left 3 && mayS s.left 3) (mayS r.left 4 && mayS s.left 4) (mayS r.left 5 && mayS s.left 5)
  have c4 := set_c (mayS r.right (-1) && mayS s.right (-1)) (mayS r.right 0 && mayS s.right 0) (mayS r.right 1 && mayS s.right 1) (mayS r.right 2 && mayS s.right 2) (mayS r.right 3 && mayS s.right 3) (mayS r.right 4 && mayS s.right 4) (mayS r.right 5 && mayS s.right 5)
  have o1 := some_or r.left s.left
  have o2 := some_or r.right s.right
  unfold meetL
  generalize hq : (decide (twoErr r s = 0) && meetM r s) = q
  unfold meetM at hq
  rw [o1, o2] at hq
  unfold andL at c2 ⊢
  clear o1 o2
  generalize (mayS r.left (-1) && mayS s.left (-1)) = a0 at *
  generalize (mayS r.left 0 && mayS s.left 0) = a1 at *
  generalize (mayS r.left 1 && mayS s.left 1) = a2 at *
  generalize (mayS r.left 2 && mayS s.left 2) = a3 at *
  generalize (mayS r.left 3 && mayS s.left 3) = a4 at *
  generalize (mayS r.left 4 && mayS s.left 4) = a5 at *
  generalize (mayS r.left 5 && mayS s.left 5) = a6 at *
  generalize (mayS r.right (-1) && mayS s.right (-1)) = b0 at *
  generalize (mayS r.right 0 && mayS s.right 0) = b1 at *
  generalize (mayS r.right 1 && mayS s.right 1) = b2 at *
  generalize (mayS r.right 2 && mayS s.right 2) = b3 at *
  generalize (mayS r.right 3 && mayS s.right 3) = b4 at *
  generalize (mayS r.right 4 && mayS s.right 4) = b5 at *
  generalize (mayS r.right 5 && mayS s.right 5) = b6 at *
  generalize twoErr r s = e at *
  simp [A51]
  try simp 
  repeat' (first
    | (refine CallX.pure (c1) (by simp) (by simp) ?_; try simp )
    | (refine CallK.intro (c1) (by simp) (by simp) ?_; try simp )
    | (refine CallG.intro (fun _ => c1) (by simp) (by simp) ?_; try simp )
    | ((with_reducible refine PreK.intro ?_ ?_); (next => (first | omega | (intros; first | omega | (refine ⟨by omega, ?_⟩; repeat (first | assumption | constructor)) | assumption))); intro _; try simp )
    | fail)
  by_cases h1 : e = 0
  · subst h1
    rw [decide_eq_true rfl, Bool.true_and] at hq
    try simp 
    repeat (refine PreK.intro (by first | omega | (intros; first | omega | (refine ⟨by omega, ?_⟩; simp_all; done) | (simp_all; done) | (simp_all; omega))) fun _ => ?_; (try simp ))
    refine CondK.ff ?_
    try simp 
    try simp 
    repeat (refine PreK.intro (by first | omega | (intros; first | omega | (refine ⟨by omega, ?_⟩; simp_all; done) | (simp_all; done) | (simp_all; omega))) fun _ => ?_; (try simp ))
    try simp 
    repeat' (first
      | (refine CallX.pure (c2) (by simp) (by simp) ?_; try simp )
      | (refine CallK.intro (c2) (by simp) (by simp) ?_; try simp )
      | (refine CallG.intro (fun _ => c2) (by simp) (by simp) ?_; try simp )
      | ((with_reducible refine PreK.intro ?_ ?_); (next => (first | omega | (intros; first | omega | (refine ⟨by omega, ?_⟩; repeat (first | assumption | constructor)) | assumption))); intro _; try simp )
      | fail)
    refine PreK.intro (fun e1 e2 => ⟨e1, or7 _ _ _ _ _ _ _ e2⟩) fun _ => ?_
    try simp 
    repeat (refine PreK.intro (by first | omega | (intros; first | omega | (refine ⟨by omega, ?_⟩; simp_all; done) | (simp_all; done) | (simp_all; omega))) fun _ => ?_; (try simp ))
    rw [dm7, hq]
    cases q with
    | true =>
      refine CondK.ff ?_
      try simp 
      try simp 
      repeat' (first
        | (refine CallX.pure (c3) (by simp) (by simp) ?_; try simp )
        | (refine CallK.intro (c3) (by simp) (by simp) ?_; try simp )
        | (refine CallG.intro (fun _ => c3) (by simp) (by simp) ?_; try simp )
        | (refine CallX.pure (c4) (by simp) (by simp) ?_; try simp )
        | (refine CallK.intro (c4) (by simp) (by simp) ?_; try simp )
        | (refine CallG.intro (fun _ => c4) (by simp) (by simp) ?_; try simp )
        | ((with_reducible refine PreK.intro ?_ ?_); (next => (first | omega | (intros; first | omega | (refine ⟨by omega, ?_⟩; repeat (first | assumption | constructor)) | assumption))); intro _; try simp )
        | fail)
      done
    | false =>
      refine CondK.tt ?_
      try simp 
      try simp 
      repeat (refine PreK.intro (by first | omega | (intros; first | omega | (refine ⟨by omega, ?_⟩; simp_all; done) | (simp_all; done) | (simp_all; omega))) fun _ => ?_; (try simp ))
      done
  · rw [decide_eq_false h1, Bool.false_and] at hq
    subst hq
    try simp [h1]
    repeat (refine PreK.intro (by first | omega | (intros; first | omega | (refine ⟨by omega, ?_⟩; simp_all; done) | (simp_all; done) | (simp_all; omega))) fun _ => ?_; (try simp [h1]))
    refine CondK.tt ?_
    try simp 
    try simp [h1]
    repeat (refine PreK.intro (by first | omega | (intros; first | omega | (refine ⟨by omega, ?_⟩; simp_all; done) | (simp_all; done) | (simp_all; omega))) fun _ => ?_; (try simp [h1]))
    done
theorem CanMeet_c (r s : Rule) (h : r.small) (h2 : s.small) : CallP Try.prog 12 [ruleV r, ruleV s] (.tup [bv (decide (twoErr r s = 0) && meetM r s), iv (twoErr r s)]) := by
  refine C12 (by simp) ?_
  simp [A12]
  try simp 
  repeat' (first
    | (refine CallX.pure (Both_c r s h h2) (by simp) (by simp) ?_; try simp )
    | (refine CallK.intro (Both_c r s h h2) (by simp) (by simp) ?_; try simp )
    | (refine CallG.intro (fun _ => Both_c r s h h2) (by simp) (by simp) ?_; try simp )
    | ((with_reducible refine PreK.intro ?_ ?_); (next => (first | omega | (intros; first | omega | (refine ⟨by omega, ?_⟩; repeat (first | assumption | constructor)) | assumption))); intro _; try simp )
    | fail)
def FirstR (r : Rule) (w : List Int) : List Int × Bool × Int :=
  if wordedErr r w ≠ 0 then ([], false, wordedErr r w) else if placesM r w = [] then ([], false, 0) else
  if 8 < (putW r w (el (placesM r w) 0).toNat).length then ([], false, 3) else (putW r w (el (placesM r w) 0).toNat, true, 0)
theorem First_c (r : Rule) (w : List Int) (h : r.small) (hw : w.length ≤ 100) : CallP Try.prog 16 [ruleV r, ints w] (.tup [ints (FirstR r w).1, bv (FirstR r w).2.1, iv (FirstR r w).2.2]) := by
  refine C16 (by simp) ?_
  have c1 := worded_c r w h (by omega)
  generalize hR : FirstR r w = R
  unfold FirstR at hR
  simp [A16]
  try simp 
  repeat' (first
    | (refine CallX.pure (c1) (by simp) (by simp) ?_; try simp )
    | (refine CallK.intro (c1) (by simp) (by simp) ?_; try simp )
    | (refine CallG.intro (fun _ => c1) (by simp) (by simp) ?_; try simp )
    | ((with_reducible refine PreK.intro ?_ ?_); (next => (first | omega | (intros; first | omega | (refine ⟨by omega, ?_⟩; repeat (first | assumption | constructor)) | assumption))); intro _; try simp )
    | fail)
  by_cases h1 : wordedErr r w = 0
  · rw [if_neg (by simpa using h1)] at hR
    obtain ⟨h2, h3⟩ := wordedErr_zero h1
    obtain ⟨h4, h5⟩ := wordErr_zero h3
    have c2 := places_c r w h (by omega) h5
    have e : placesF r w 0 (w.length + 1 - (long r).toNat) = placesM r w := rfl
    rw [e] at c2
    try simp [h1]
    repeat (refine PreK.intro (by first | omega | (intros; first | omega | (refine ⟨by omega, ?_⟩; simp_all; done) | (simp_all; done) | (simp_all; omega))) fun _ => ?_; (try simp [h1]))
    refine CondK.ff ?_
    try simp 
    try simp 
    repeat (refine PreK.intro (by first | omega | (intros; first | omega | (refine ⟨by omega, ?_⟩; simp_all; done) | (simp_all; done) | (simp_all; omega))) fun _ => ?_; (try simp ))
    try simp 
    repeat' (first
      | (refine CallX.pure (c2) (by simp) (by simp) ?_; try simp )
      | (refine CallK.intro (c2) (by simp) (by simp) ?_; try simp )
      | (refine CallG.intro (fun _ => c2) (by simp) (by simp) ?_; try simp )
      | ((with_reducible refine PreK.intro ?_ ?_); (next => (first | omega | (intros; first | omega | (refine ⟨by omega, ?_⟩; repeat (first | assumption | constructor)) | assumption))); intro _; try simp )
      | fail)
    try simp 
    repeat (refine PreK.intro (by first | omega | (intros; first | omega | (refine ⟨by omega, ?_⟩; simp_all; done) | (simp_all; done) | (simp_all; omega))) fun _ => ?_; (try simp ))
    by_cases h6 : placesM r w = []
    · rw [if_pos h6] at hR
      subst hR
      try simp [h6]
      repeat (refine PreK.intro (by first | omega | (intros; first | omega | (refine ⟨by omega, ?_⟩; simp_all; done) | (simp_all; done) | (simp_all; omega))) fun _ => ?_; (try simp [h6]))
      refine CondK.tt ?_
      try simp 
      try simp 
      repeat (refine PreK.intro (by first | omega | (intros; first | omega | (refine ⟨by omega, ?_⟩; simp_all; done) | (simp_all; done) | (simp_all; omega))) fun _ => ?_; (try simp ))
    · rw [if_neg h6] at hR
      obtain ⟨j, ej, hj⟩ := place_first h6
      have hl := long_one r
      have h6' : 0 < (placesM r w).length := by
        cases hp : placesM r w with
        | nil => exact absurd hp h6
        | cons a l => simp
      rw [ej, Int.toNat_natCast] at hR
      have ht : r.to.length ≤ 400 := by have := ruleErr_to h2; omega
      have c3 := put_c r w j (by omega) (by omega) ht
      have c4 := short_c (putW r w j)
      try simp [h6]
      repeat (refine PreK.intro (by first | omega | (intros; first | omega | (refine ⟨by omega, ?_⟩; simp_all; done) | (simp_all; done) | (simp_all; omega))) fun _ => ?_; (try simp [h6]))
      refine CondK.ff ?_
      try simp 
      try simp [h6', ej]
      repeat (refine PreK.intro (by first | omega | (intros; first | omega | (refine ⟨by omega, ?_⟩; simp_all; done) | (simp_all; done) | (simp_all; omega))) fun _ => ?_; (try simp [h6', ej]))
      refine CallK.intro (by simpa using c3) (by simp) (by simp) ?_
      try simp 
      refine CallK.intro (by simpa using c4) (by simp) (by simp) ?_
      try simp 
      unfold shortErr
      by_cases h7 : 8 < (putW r w j).length
      · rw [if_pos h7] at hR
        subst hR
        try simp [h7]
        repeat (refine PreK.intro (by first | omega | (intros; first | omega | (refine ⟨by omega, ?_⟩; simp_all; done) | (simp_all; done) | (simp_all; omega))) fun _ => ?_; (try simp [h7]))
      · rw [if_neg h7] at hR
        subst hR
        try simp [h7]
        repeat (refine PreK.intro (by first | omega | (intros; first | omega | (refine ⟨by omega, ?_⟩; simp_all; done) | (simp_all; done) | (simp_all; omega))) fun _ => ?_; (try simp [h7]))
  · rw [if_pos h1] at hR
    subst hR
    try simp [h1]
    repeat (refine PreK.intro (by first | omega | (intros; first | omega | (refine ⟨by omega, ?_⟩; simp_all; done) | (simp_all; done) | (simp_all; omega))) fun _ => ?_; (try simp [h1]))
    refine CondK.tt ?_
    try simp 
    try simp 
    repeat (refine PreK.intro (by first | omega | (intros; first | omega | (refine ⟨by omega, ?_⟩; simp_all; done) | (simp_all; done) | (simp_all; omega))) fun _ => ?_; (try simp ))
theorem placesF_sorted (r : Rule) (w : List Int) : ∀ n i : Nat, (placesF r w i n).Pairwise (· < ·)
  | 0, i => by simp [placesF]
  | n + 1, i => by
    have ih := placesF_sorted r w n (i + 1)
    rw [placesF]
    split
    · refine List.pairwise_cons.2 ⟨fun x hx => ?_, ih⟩
      obtain ⟨j, e, h1, _⟩ := (mem_placesF r w x n (i + 1)).1 hx
      omega
    · exact ih
theorem all_c (r : Rule) (w : List Int) (h : r.small) (hw : w.length ≤ 8) (ht : r.to.length ≤ 2) (hs : w.all isSound = true) : CallP Try.prog 54 [ruleV r, ints w] (ints (allM r w)) := by
  refine C54 (by simp) ?_
  have c1 := clone_p w (by omega)
  have c2 := places_c r w h (by omega) hs
  have e : placesF r w 0 (w.length + 1 - (long r).toNat) = placesM r w := rfl
  rw [e] at c2
  have c3 := Backward_c (placesM r w)
  have hsrt : (placesM r w).Pairwise (· < ·) := placesF_sorted r w _ _
  have hpl : (placesM r w).length ≤ 9 := by
    have := placesF_len r w (w.length + 1 - (long r).toNat) 0
    rw [e] at this
    omega
  have hmem : ∀ x ∈ placesM r w, ∃ j : Nat, x = (j : Int) ∧ (j : Int) + long r ≤ w.length := by
    intro x hx
    obtain ⟨j, e1, _, e2, _⟩ := (mem_placesF r w x _ _).1 hx
    refine ⟨j, e1, ?_⟩
    rcases long_one r with ⟨a, b⟩ | ⟨a, b⟩ <;> omega
  have hall : allM r w = (placesM r w).foldr (fun i out => putW r out i.toNat) w := rfl
  rw [hall]
  clear hall
  generalize placesM r w = L at *
  have hit := backward_it L (by omega)
  simp [A54]
  try simp 
  repeat' (first
    | (refine CallX.pure (c1) (by simp) (by simp) ?_; try simp )
    | (refine CallK.intro (c1) (by simp) (by simp) ?_; try simp )
    | (refine CallG.intro (fun _ => c1) (by simp) (by simp) ?_; try simp )
    | ((with_reducible refine PreK.intro ?_ ?_); (next => (first | omega | (intros; first | omega | (refine ⟨by omega, ?_⟩; repeat (first | assumption | constructor)) | assumption))); intro _; try simp )
    | fail)
  try simp 
  repeat (refine PreK.intro (by first | omega | (intros; first | omega | (refine ⟨by omega, ?_⟩; simp_all; done) | (simp_all; done) | (simp_all; omega))) fun _ => ?_; (try simp ))
  try simp 
  repeat' (first
    | (refine CallX.pure (c2) (by simp) (by simp) ?_; try simp )
    | (refine CallK.intro (c2) (by simp) (by simp) ?_; try simp )
    | (refine CallG.intro (fun _ => c2) (by simp) (by simp) ?_; try simp )
    | ((with_reducible refine PreK.intro ?_ ?_); (next => (first | omega | (intros; first | omega | (refine ⟨by omega, ?_⟩; repeat (first | assumption | constructor)) | assumption))); intro _; try simp )
    | fail)
  try simp 
  repeat (refine PreK.intro (by first | omega | (intros; first | omega | (refine ⟨by omega, ?_⟩; simp_all; done) | (simp_all; done) | (simp_all; omega))) fun _ => ?_; (try simp ))
  try simp 
  repeat' (first
    | (refine CallX.pure (c3) (by simp) (by simp) ?_; try simp )
    | (refine CallK.intro (c3) (by simp) (by simp) ?_; try simp )
    | (refine CallG.intro (fun _ => c3) (by simp) (by simp) ?_; try simp )
    | ((with_reducible refine PreK.intro ?_ ?_); (next => (first | omega | (intros; first | omega | (refine ⟨by omega, ?_⟩; repeat (first | assumption | constructor)) | assumption))); intro _; try simp )
    | fail)
  refine RangeK.by ⟨[(13, .fn 109 [] [.ipt (ints L) 0]), (2, .pt 2 1 0 0), (5, .pt 5 1 0 0)], [(2, some ⟨4, [ruleV r], 1, true⟩), (5, some ⟨1, [ints w], 1, true⟩)]⟩
    [(2, 1, 2), (5, 1, 5)] (ι := List Int) (fun cur => [(2, some ⟨4, [ruleV r], 0, true⟩), (5, some ⟨1, [ints cur], 0, true⟩)])
    (fun k cur => k ≤ L.length ∧ cur = (L.drop (L.length - k)).foldr (fun i out => putW r out i.toNat) w ∧ cur.length ≤ w.length + 2 * k ∧ ∃ p X, p ≤ w.length ∧ cur = w.take p ++ X ∧ ∀ q, q < L.length - k → el L q + long r ≤ (p : Int)) w
    hit (by simp) (by simp) (by simp [AV.refsL, AV.refs]) (by simp) ?_ (by simp) ⟨Nat.zero_le _, by simp, by simp, w.length, [], Nat.le_refl _, by simp, fun q hq => ?_⟩ ?_ ?_ ?_
  · intro k hk
    rw [backL_len] at hk
    rw [backL_get L k hk]
    refine ⟨rfl, fun v hv => ?_⟩
    simp only [List.mem_cons, List.not_mem_nil, or_false] at hv
    rcases hv with rfl | rfl <;> rfl
  · obtain ⟨j, e1, e2⟩ := hmem _ (el_mem_of L q (by omega))
    rw [e1]
    exact e2
  · intro k cur _
    simp [RoundM]
  · intro k cur Q' hk ⟨hkl, hcur, hcl, p, X, hp, hcx, hq0⟩ hn hxt hrt
    rw [backL_len] at hk
    rw [backL_get L k hk]
    obtain ⟨i, hi⟩ : ∃ i : Nat, L.length - 1 - k = i := ⟨_, rfl⟩
    have hil : i < L.length := by omega
    rw [hi]
    obtain ⟨j, ej, hj⟩ := hmem _ (el_mem_of L i hil)
    have hjp := hq0 i (by omega)
    rw [ej] at hjp ⊢
    have hlo := long_one r
    have htl : (w.take p).length = p := by rw [List.length_take]; omega
    have hpc : p ≤ cur.length := by rw [hcx, List.length_append, htl]; omega
    have c4 := put_c r cur j (by omega) (by omega) (by omega)
    have hpl2 := put_len r cur j (by omega)
    simp [parE, renE]
    try simp 
    repeat (refine PreK.intro (by first | omega | (intros; first | omega | (refine ⟨by omega, ?_⟩; simp_all; done) | (simp_all; done) | (simp_all; omega))) fun _ => ?_; (try simp ))
    try simp 
    repeat' (first
      | (refine CallX.pure (c4) (by simp) (by simp) ?_; try simp )
      | (refine CallK.intro (c4) (by simp) (by simp) ?_; try simp )
      | (refine CallG.intro (fun _ => c4) (by simp) (by simp) ?_; try simp )
      | ((with_reducible refine PreK.intro ?_ ?_); (next => (first | omega | (intros; first | omega | (refine ⟨by omega, ?_⟩; repeat (first | assumption | constructor)) | assumption))); intro _; try simp )
      | fail)
    try simp 
    repeat (refine PreK.intro (by first | omega | (intros; first | omega | (refine ⟨by omega, ?_⟩; simp_all; done) | (simp_all; done) | (simp_all; omega))) fun _ => ?_; (try simp ))
    refine hn (putW r cur j) _ ⟨by omega, ?_, by omega, j, r.to ++ cur.drop (j + (long r).toNat), by omega, ?_, fun q hq => ?_⟩ (by simp)
    · rw [show L.length - (k + 1) = i by omega, drop_cons L i hil, List.foldr_cons, ej, Int.toNat_natCast, show i + 1 = L.length - k by omega, ← hcur]
    · unfold putW
      rw [List.append_assoc]
      congr 1
      rw [hcx, List.take_append_of_le_length (by omega), List.take_take, Nat.min_eq_left (by omega)]
    · have h5 := (List.pairwise_iff_getElem.1 hsrt) q i (by omega) hil (by omega)
      rw [← el_eq L q (by omega), ← el_eq L i hil, ej] at h5
      omega
  · intro cur ⟨_, hcur, _⟩
    rw [backL_len, Nat.sub_self, List.drop_zero] at hcur
    subst hcur
    try simp 
    repeat (refine PreK.intro (by first | omega | (intros; first | omega | (refine ⟨by omega, ?_⟩; simp_all; done) | (simp_all; done) | (simp_all; omega))) fun _ => ?_; (try simp ))
    refine ⟨[], ?_⟩
    simp
def AtAllR (r : Rule) (w : List Int) : List Int × Int :=
  if wordedErr r w ≠ 0 then ([], wordedErr r w) else if 8 < (allM r w).length then ([], 3) else (allM r w, 0)
theorem AtAll_c (r : Rule) (w : List Int) (h : r.small) (hw : w.length ≤ 100) : CallP Try.prog 15 [ruleV r, ints w] (.tup [ints (AtAllR r w).1, iv (AtAllR r w).2]) := by
  refine C15 (by simp) ?_
  have c1 := worded_c r w h (by omega)
  generalize hR : AtAllR r w = R
  unfold AtAllR at hR
  simp [A15]
  try simp 
  repeat' (first
    | (refine CallX.pure (c1) (by simp) (by simp) ?_; try simp )
    | (refine CallK.intro (c1) (by simp) (by simp) ?_; try simp )
    | (refine CallG.intro (fun _ => c1) (by simp) (by simp) ?_; try simp )
    | ((with_reducible refine PreK.intro ?_ ?_); (next => (first | omega | (intros; first | omega | (refine ⟨by omega, ?_⟩; repeat (first | assumption | constructor)) | assumption))); intro _; try simp )
    | fail)
  by_cases h1 : wordedErr r w = 0
  · rw [if_neg (by simpa using h1)] at hR
    obtain ⟨h2, h3⟩ := wordedErr_zero h1
    obtain ⟨h4, h5⟩ := wordErr_zero h3
    have c2 := all_c r w h (by omega) (ruleErr_to h2) h5
    have c3 := short_c (allM r w)
    unfold shortErr at c3
    try simp [h1]
    repeat (refine PreK.intro (by first | omega | (intros; first | omega | (refine ⟨by omega, ?_⟩; simp_all; done) | (simp_all; done) | (simp_all; omega))) fun _ => ?_; (try simp [h1]))
    refine CondK.ff ?_
    try simp 
    try simp 
    repeat (refine PreK.intro (by first | omega | (intros; first | omega | (refine ⟨by omega, ?_⟩; simp_all; done) | (simp_all; done) | (simp_all; omega))) fun _ => ?_; (try simp ))
    try simp 
    repeat' (first
      | (refine CallX.pure (c2) (by simp) (by simp) ?_; try simp )
      | (refine CallK.intro (c2) (by simp) (by simp) ?_; try simp )
      | (refine CallG.intro (fun _ => c2) (by simp) (by simp) ?_; try simp )
      | ((with_reducible refine PreK.intro ?_ ?_); (next => (first | omega | (intros; first | omega | (refine ⟨by omega, ?_⟩; repeat (first | assumption | constructor)) | assumption))); intro _; try simp )
      | fail)
    try simp 
    repeat (refine PreK.intro (by first | omega | (intros; first | omega | (refine ⟨by omega, ?_⟩; simp_all; done) | (simp_all; done) | (simp_all; omega))) fun _ => ?_; (try simp ))
    by_cases h7 : 8 < (allM r w).length
    · rw [if_pos h7] at hR c3
      rw [if_pos h7] at c3
      subst hR
      try simp 
      repeat' (first
        | (refine CallX.pure (c3) (by simp) (by simp) ?_; try simp )
        | (refine CallK.intro (c3) (by simp) (by simp) ?_; try simp )
        | (refine CallG.intro (fun _ => c3) (by simp) (by simp) ?_; try simp )
        | ((with_reducible refine PreK.intro ?_ ?_); (next => (first | omega | (intros; first | omega | (refine ⟨by omega, ?_⟩; repeat (first | assumption | constructor)) | assumption))); intro _; try simp )
        | fail)
      try simp 
      repeat (refine PreK.intro (by first | omega | (intros; first | omega | (refine ⟨by omega, ?_⟩; simp_all; done) | (simp_all; done) | (simp_all; omega))) fun _ => ?_; (try simp ))
    · rw [if_neg h7] at hR c3
      rw [if_neg h7] at c3
      subst hR
      try simp 
      repeat' (first
        | (refine CallX.pure (c3) (by simp) (by simp) ?_; try simp )
        | (refine CallK.intro (c3) (by simp) (by simp) ?_; try simp )
        | (refine CallG.intro (fun _ => c3) (by simp) (by simp) ?_; try simp )
        | ((with_reducible refine PreK.intro ?_ ?_); (next => (first | omega | (intros; first | omega | (refine ⟨by omega, ?_⟩; repeat (first | assumption | constructor)) | assumption))); intro _; try simp )
        | fail)
      try simp 
      repeat (refine PreK.intro (by first | omega | (intros; first | omega | (refine ⟨by omega, ?_⟩; simp_all; done) | (simp_all; done) | (simp_all; omega))) fun _ => ?_; (try simp ))
  · rw [if_pos h1] at hR
    subst hR
    try simp [h1]
    repeat (refine PreK.intro (by first | omega | (intros; first | omega | (refine ⟨by omega, ?_⟩; simp_all; done) | (simp_all; done) | (simp_all; omega))) fun _ => ?_; (try simp [h1]))
    refine CondK.tt ?_
    try simp 
    try simp 
    repeat (refine PreK.intro (by first | omega | (intros; first | omega | (refine ⟨by omega, ?_⟩; simp_all; done) | (simp_all; done) | (simp_all; omega))) fun _ => ?_; (try simp ))
end Go.Proofs.Ytkhddecnllcaiaa
end

section
/- Functions of the cut as the value layer reads them. (written by gen.py) -/
set_option maxRecDepth 20000
namespace Go.Proofs.Ytkhddecnllcaiaa
open Go.Abs Go

def A8 : ACode :=
  (.seq (.reg [] [⟨some 4, (.assign (.const (.bool false))), 4, none⟩])
    (.seq (.seq (.reg [] [⟨some 6, (.move (.tmp 0)), 22, none⟩,
      ⟨some 7, (.call ⟨(.builtin .len), #[(.tmp 6)], #[22]⟩), 3, none⟩,
      ⟨some 8, (.move (.tmp 1)), 22, none⟩,
      ⟨some 9, (.call ⟨(.builtin .len), #[(.tmp 8)], #[22]⟩), 3, none⟩,
      ⟨some 10, (.binOp .neq 3 (.tmp 7) (.tmp 9) 3), 4, none⟩])
    (.cond (.tmp 10)
    (.seq (.reg [] [⟨some 4, (.assign (.const (.bool false))), 4, none⟩])
    .ret)
    .skip))
    (.seq (.seq (.reg [] [⟨some 5, (.assign (.const (.int .i64 0))), 3, none⟩])
    (.block 0 (.loop (.seq (.seq (.reg [] [⟨some 11, (.move (.tmp 5)), 3, none⟩,
      ⟨some 12, (.move (.tmp 0)), 22, none⟩,
      ⟨some 13, (.call ⟨(.builtin .len), #[(.tmp 12)], #[22]⟩), 3, none⟩,
      ⟨some 14, (.binOp .lss 3 (.tmp 11) (.tmp 13) 3), 4, none⟩])
    (.cond (.tmp 14)
    .skip
    (.exit 0)))
    (.seq (.block 1 (.seq (.draw [] [⟨some 17, (.move (.tmp 0)), 22, none⟩,
      ⟨some 18, (.move (.tmp 5)), 3, none⟩,
      ⟨some 19, (.indexAddr 22 (.tmp 17) (.tmp 18)), 0, none⟩,
      ⟨some 20, (.load 3 (.tmp 19)), 3, none⟩,
      ⟨some 21, (.move (.tmp 1)), 22, none⟩,
      ⟨some 22, (.move (.tmp 5)), 3, none⟩,
      ⟨some 23, (.indexAddr 22 (.tmp 21) (.tmp 22)), 0, none⟩,
      ⟨some 24, (.load 3 (.tmp 23)), 3, none⟩,
      ⟨some 25, (.binOp .neq 3 (.tmp 20) (.tmp 24) 3), 4, none⟩] [(0, 1), (0, 4), (1, 4), (2, 4), (3, 4), (0, 5), (1, 5), (2, 5), (3, 5), (4, 5), (0, 6), (1, 6), (2, 6), (3, 6), (0, 7), (1, 7), (2, 7), (3, 7)])
    (.cond (.tmp 25)
    (.seq (.reg [] [⟨some 4, (.assign (.const (.bool false))), 4, none⟩])
    .ret)
    .skip)))
    (.reg [] [⟨some 15, (.move (.tmp 5)), 3, none⟩,
      ⟨some 16, (.binOp .add 3 (.tmp 15) (.const (.int .i64 1)) 3), 3, none⟩,
      ⟨some 5, (.assign (.tmp 16)), 3, none⟩]))))))
    (.seq (.reg [] [⟨some 4, (.assign (.const (.bool true))), 4, none⟩])
    .ret))))
theorem C8 {args : List AV} {r : AV} (hn : args.length ≤ 26) (h : vc Try.prog T [] A8 (Fin T [(.tmp 4)] r) ⟨envOf 0 args, []⟩) : CallP Try.prog 8 args r :=
  callP_of tok mixed Try.func8 (by kernel_rfl) (by kernel_rfl) (by kernel_rfl : Try.f8.ntmps = 26) (by kernel_rfl : Try.f8.body.bind (strip 26 (fun _ => [])) = some A8) hn h

end Go.Proofs.Ytkhddecnllcaiaa
end

section
/- Functions of the cut as the value layer reads them. (written by gen.py) -/
set_option maxRecDepth 20000
namespace Go.Proofs.Ytkhddecnllcaiaa
open Go.Abs Go



end Go.Proofs.Ytkhddecnllcaiaa
end

section
/- Contracts: the statement TopRules. -/
namespace Go.Proofs.Ytkhddecnllcaiaa
open Go.Abs Go
set_option maxRecDepth 20000
set_option maxHeartbeats 8000000
attribute [local irreducible] PreK CondK CallK CallG CallX LoopK
/- PURSE -/
attribute [local simp] avsEq avEq akind teq vkind vEq

@[simp] def twoV (x : Rule × Rule) : AV := .agg [iv x.1.frm, ints x.1.to, ints x.1.left, ints x.1.right, iv x.2.frm, ints x.2.to, ints x.2.left, ints x.2.right]
theorem same1r_c (a b : List Int) (ha : a.length ≤ big) : CallP Try.prog 8 [ints a, ints b] (bv (decide (a = b))) := by
  refine C8 (by simp) ?_
  generalize hR : decide (a = b) = R
  simp [A8]
  refine CondK.intro (fun h => ?_) (fun h => ?_)
  · simp at h
    have : a ≠ b := fun e => h (by rw [e])
    simp [this] at hR
    simp [hR]
  · simp at h
    simp
    refine LoopK.by (fun i : Nat => ⟨[(5, iv i), (4, bv false), (0, ints a), (1, ints b)], []⟩) (fun i => a.length - i) (fun i => i ≤ a.length ∧ decide (a.drop i = b.drop i) = R) 0 (by simpa using hR) (by simp) ?_
    intro i Q' ⟨hi, hc⟩ hq he hr
    simp
    refine CondK.intro (fun h2 => ?_) (fun h2 => ?_)
    · simp at h2
      rw [drop_cons a i h2, drop_cons b i (by omega)] at hc
      simp [h2, show i < b.length by omega]
      refine CondK.intro (fun h3 => ?_) (fun h3 => ?_)
      · simp at h3
        simp [h3] at hc
        simp
        apply hr
        simp [hc]
      · simp at h3
        simp [h3] at hc
        simp
        refine PreK.intro (by simp only [big] at ha; omega) fun _ => ?_
        simp
        exact hq (i + 1) _ ⟨by omega, by simpa using hc⟩ (by omega) (by simp)
    · simp at h2
      rw [List.drop_eq_nil_of_le (by omega), List.drop_eq_nil_of_le (by omega)] at hc
      simp at hc
      simp
      apply he
      simp [hc]
theorem large2_c (l : List Int) : CallP Try.prog 44 [ints l] (bv (decide (100 < l.length))) := by
  refine C44 (by simp) ?_
  simp [A44]
  by_cases h : 100 < l.length
  · have h' : (100 : Int) < l.length := by omega
    try simp [h, h']
    repeat (refine PreK.intro (by first | omega | (intros; first | omega | (refine ⟨by omega, ?_⟩; simp_all; done) | (simp_all; done) | (simp_all; omega))) fun _ => ?_; (try simp [h, h']))
  · have h' : ¬ (100 : Int) < l.length := by omega
    try simp [h, h']
    repeat (refine PreK.intro (by first | omega | (intros; first | omega | (refine ⟨by omega, ?_⟩; simp_all; done) | (simp_all; done) | (simp_all; omega))) fun _ => ?_; (try simp [h, h']))
def longR (r : Rule) : Bool := decide (100 < r.to.length) || (decide (100 < r.left.length) || decide (100 < r.right.length))
theorem Long2_c (r : Rule) : CallP Try.prog 9 [ruleV r] (bv (longR r)) := by
  refine C9 (by simp) ?_
  have c1 := large2_c r.to
  have c2 := large2_c r.left
  have c3 := large2_c r.right
  unfold longR
  generalize decide (100 < r.to.length) = a at *
  generalize decide (100 < r.left.length) = b at *
  generalize decide (100 < r.right.length) = c at *
  simp [A9]
  cases a with
  | true =>
    try simp 
    repeat' (first
      | (refine CallX.pure (c1) (by simp) (by simp) ?_; try simp )
      | (refine CallK.intro (c1) (by simp) (by simp) ?_; try simp )
      | (refine CallG.intro (fun _ => c1) (by simp) (by simp) ?_; try simp )
      | ((with_reducible refine PreK.intro ?_ ?_); (next => (first | omega | (intros; first | omega | (refine ⟨by omega, ?_⟩; repeat (first | assumption | constructor)) | assumption))); intro _; try simp )
      | fail)
    refine CallG.intro (r := (bv true)) (fun hh => by cases hh) (by simp) (by simp) ?_
    try simp 
    try simp 
    repeat (refine PreK.intro (by first | omega | (intros; first | omega | (refine ⟨by omega, ?_⟩; simp_all; done) | (simp_all; done) | (simp_all; omega))) fun _ => ?_; (try simp ))
    refine CallG.intro (r := (bv true)) (fun hh => by cases hh) (by simp) (by simp) ?_
    try simp 
    try simp 
    repeat (refine PreK.intro (by first | omega | (intros; first | omega | (refine ⟨by omega, ?_⟩; simp_all; done) | (simp_all; done) | (simp_all; omega))) fun _ => ?_; (try simp ))
  | false =>
    cases b with
    | true =>
      try simp 
      repeat' (first
        | (refine CallX.pure (c1) (by simp) (by simp) ?_; try simp )
        | (refine CallK.intro (c1) (by simp) (by simp) ?_; try simp )
        | (refine CallG.intro (fun _ => c1) (by simp) (by simp) ?_; try simp )
        | (refine CallX.pure (c2) (by simp) (by simp) ?_; try simp )
        | (refine CallK.intro (c2) (by simp) (by simp) ?_; try simp )
        | (refine CallG.intro (fun _ => c2) (by simp) (by simp) ?_; try simp )
        | ((with_reducible refine PreK.intro ?_ ?_); (next => (first | omega | (intros; first | omega | (refine ⟨by omega, ?_⟩; repeat (first | assumption | constructor)) | assumption))); intro _; try simp )
        | fail)
      refine CallG.intro (r := (bv true)) (fun hh => by cases hh) (by simp) (by simp) ?_
      try simp 
      try simp 
      repeat (refine PreK.intro (by first | omega | (intros; first | omega | (refine ⟨by omega, ?_⟩; simp_all; done) | (simp_all; done) | (simp_all; omega))) fun _ => ?_; (try simp ))
    | false =>
      try simp 
      repeat' (first
        | (refine CallX.pure (c1) (by simp) (by simp) ?_; try simp )
        | (refine CallK.intro (c1) (by simp) (by simp) ?_; try simp )
        | (refine CallG.intro (fun _ => c1) (by simp) (by simp) ?_; try simp )
        | (refine CallX.pure (c2) (by simp) (by simp) ?_; try simp )
        | (refine CallK.intro (c2) (by simp) (by simp) ?_; try simp )
        | (refine CallG.intro (fun _ => c2) (by simp) (by simp) ?_; try simp )
        | (refine CallX.pure (c3) (by simp) (by simp) ?_; try simp )
        | (refine CallK.intro (c3) (by simp) (by simp) ?_; try simp )
        | (refine CallG.intro (fun _ => c3) (by simp) (by simp) ?_; try simp )
        | ((with_reducible refine PreK.intro ?_ ?_); (next => (first | omega | (intros; first | omega | (refine ⟨by omega, ?_⟩; repeat (first | assumption | constructor)) | assumption))); intro _; try simp )
        | fail)
theorem longR_small {r : Rule} (h : longR r = false) : r.small := by
  unfold longR at h
  simp at h
  exact ⟨by omega, by omega, by omega⟩
theorem rest_snd {r : Rule} {w : List Int} (ht : ∀ x ∈ r.to, isSound x = true) (hw : ∀ x ∈ w, isSound x = true) : ∀ n p : Nat, p + n = w.length → ∀ x ∈ restF r w p n, isSound x = true
  | 0, p, _, x, hx => by
    rw [restF] at hx
    split at hx
    · unfold putAt at hx
      split at hx
      · exact ht x hx
      · cases hx
    · cases hx
  | n + 1, p, hp, x, hx => by
    rw [restF] at hx
    rcases List.mem_append.1 hx with hx | hx
    · unfold putAt at hx
      split at hx
      · exact ht x hx
      · cases hx
    · rcases List.mem_append.1 hx with hx | hx
      · unfold keepAt at hx
        split at hx
        · cases hx
        · rw [List.mem_singleton.1 hx]
          exact hw _ (el_mem_of w p (by omega))
      · exact rest_snd ht hw n (p + 1) (by omega) x hx
theorem ruleErr_snd {r : Rule} (h : ruleErr r = 0) : (-1 ≤ r.frm ∧ r.frm ≤ 5) ∧ ∀ x ∈ r.to, isSound x = true := by
  unfold ruleErr at h
  split at h
  · cases h
  · rename_i h0
    split at h
    · cases h
    · split at h
      · cases h
      · rename_i h3
        simp only [Bool.or_eq_true, not_or] at h3
        refine ⟨?_, fun x hx => ?_⟩
        · simp [isNeighbor, isSound] at h0
          omega
        · have h4 := h3.1.1
          simp only [List.any_eq_true, not_exists, not_and] at h4
          simpa using h4 x hx
theorem word_snd {w : List Int} (h : wordErr w = 0) : ∀ x ∈ w, isSound x = true := fun x hx => List.all_eq_true.1 (wordErr_zero h).2 x hx
theorem wordErr_of {w : List Int} (hl : w.length ≤ 8) (h : ∀ x ∈ w, isSound x = true) : wordErr w = 0 := by
  unfold wordErr
  rw [if_neg (by omega), if_neg ?_]
  simp only [List.any_eq_true, not_exists, not_and]
  intro x hx
  simp [h x hx]
theorem lawTopRules_c (r s : Rule) (w : List Int) : CallP Try.prog 3 [twoV (r, s), ints w] (bv true) := by
  refine C3 (by simp) ?_
  have c0 := Places_c ⟨-1, [2], [0], [0]⟩ [0, 0, 0] ⟨by decide, by decide, by decide⟩ (by decide)
  have e0 : PlacesM ⟨-1, [2], [0], [0]⟩ [0, 0, 0] = ([1, 2], 0) := by kernel_rfl
  rw [e0] at c0
  dsimp only at c0
  have c1 := same1r_c [1, 2] [1, 2] (by decide)
  have l1 := Long2_c r
  have l2 := Long2_c s
  simp [A3]
  try simp 
  repeat (refine PreK.intro (by first | omega | (intros; first | omega | (refine ⟨by omega, ?_⟩; simp_all; done) | (simp_all; done) | (simp_all; omega))) fun _ => ?_; (try simp ))
  refine CallX.pure (CallP.weak (by simpa [weakL, weak] using c0)) (by simp) (by simp) ?_
  try simp 
  repeat (refine PreK.intro (by first | omega | (intros; first | omega | (refine ⟨by omega, ?_⟩; simp_all; done) | (simp_all; done) | (simp_all; omega))) fun _ => ?_; (try simp ))
  refine CallG.intro (fun _ => CallP.weak (by simpa [weakL, weak] using c1)) (by simp) (by simp) ?_
  try simp 
  repeat (refine PreK.intro (by first | omega | (intros; first | omega | (refine ⟨by omega, ?_⟩; simp_all; done) | (simp_all; done) | (simp_all; omega))) fun _ => ?_; (try simp ))
  refine CondK.ff ?_
  try simp 
  try simp 
  repeat (refine PreK.intro (by first | omega | (intros; first | omega | (refine ⟨by omega, ?_⟩; simp_all; done) | (simp_all; done) | (simp_all; omega))) fun _ => ?_; (try simp ))
  cases hA : longR r with
  | true =>
    rw [hA] at l1
    try simp 
    repeat' (first
      | (refine CallX.pure (l1) (by simp) (by simp) ?_; try simp )
      | (refine CallK.intro (l1) (by simp) (by simp) ?_; try simp )
      | (refine CallG.intro (fun _ => l1) (by simp) (by simp) ?_; try simp )
      | ((with_reducible refine PreK.intro ?_ ?_); (next => (first | omega | (intros; first | omega | (refine ⟨by omega, ?_⟩; repeat (first | assumption | constructor)) | assumption))); intro _; try simp )
      | fail)
    refine CallG.intro (r := (bv true)) (fun hh => by cases hh) (by simp) (by simp) ?_
    try simp 
    try simp 
    repeat (refine PreK.intro (by first | omega | (intros; first | omega | (refine ⟨by omega, ?_⟩; simp_all; done) | (simp_all; done) | (simp_all; omega))) fun _ => ?_; (try simp ))
    refine CondK.tt ?_
    try simp 
    try simp 
    repeat (refine PreK.intro (by first | omega | (intros; first | omega | (refine ⟨by omega, ?_⟩; simp_all; done) | (simp_all; done) | (simp_all; omega))) fun _ => ?_; (try simp ))
  | false =>
    rw [hA] at l1
    cases hB : longR s with
    | true =>
      rw [hB] at l2
      try simp 
      repeat' (first
        | (refine CallX.pure (l1) (by simp) (by simp) ?_; try simp )
        | (refine CallK.intro (l1) (by simp) (by simp) ?_; try simp )
        | (refine CallG.intro (fun _ => l1) (by simp) (by simp) ?_; try simp )
        | (refine CallX.pure (l2) (by simp) (by simp) ?_; try simp )
        | (refine CallK.intro (l2) (by simp) (by simp) ?_; try simp )
        | (refine CallG.intro (fun _ => l2) (by simp) (by simp) ?_; try simp )
        | ((with_reducible refine PreK.intro ?_ ?_); (next => (first | omega | (intros; first | omega | (refine ⟨by omega, ?_⟩; repeat (first | assumption | constructor)) | assumption))); intro _; try simp )
        | fail)
      try simp 
      repeat (refine PreK.intro (by first | omega | (intros; first | omega | (refine ⟨by omega, ?_⟩; simp_all; done) | (simp_all; done) | (simp_all; omega))) fun _ => ?_; (try simp ))
      refine CondK.tt ?_
      try simp 
      try simp 
      repeat (refine PreK.intro (by first | omega | (intros; first | omega | (refine ⟨by omega, ?_⟩; simp_all; done) | (simp_all; done) | (simp_all; omega))) fun _ => ?_; (try simp ))
    | false =>
      rw [hB] at l2
      have hr := longR_small hA
      have hs := longR_small hB
      by_cases hw : 100 < w.length
      · have hw' : (100 : Int) < w.length := by omega
        try simp [hw, hw']
        repeat' (first
          | (refine CallX.pure (l1) (by simp) (by simp) ?_; try simp [hw, hw'])
          | (refine CallK.intro (l1) (by simp) (by simp) ?_; try simp [hw, hw'])
          | (refine CallG.intro (fun _ => l1) (by simp) (by simp) ?_; try simp [hw, hw'])
          | (refine CallX.pure (l2) (by simp) (by simp) ?_; try simp [hw, hw'])
          | (refine CallK.intro (l2) (by simp) (by simp) ?_; try simp [hw, hw'])
          | (refine CallG.intro (fun _ => l2) (by simp) (by simp) ?_; try simp [hw, hw'])
          | ((with_reducible refine PreK.intro ?_ ?_); (next => (first | omega | (intros; first | omega | (refine ⟨by omega, ?_⟩; repeat (first | assumption | constructor)) | assumption))); intro _; try simp [hw, hw'])
          | fail)
        try simp [hw, hw']
        repeat (refine PreK.intro (by first | omega | (intros; first | omega | (refine ⟨by omega, ?_⟩; simp_all; done) | (simp_all; done) | (simp_all; omega))) fun _ => ?_; (try simp [hw, hw']))
        refine CondK.tt ?_
        try simp 
        try simp 
        repeat (refine PreK.intro (by first | omega | (intros; first | omega | (refine ⟨by omega, ?_⟩; simp_all; done) | (simp_all; done) | (simp_all; omega))) fun _ => ?_; (try simp ))
      · have hw' : ¬ (100 : Int) < w.length := by omega
        try simp [hw, hw']
        repeat' (first
          | (refine CallX.pure (l1) (by simp) (by simp) ?_; try simp [hw, hw'])
          | (refine CallK.intro (l1) (by simp) (by simp) ?_; try simp [hw, hw'])
          | (refine CallG.intro (fun _ => l1) (by simp) (by simp) ?_; try simp [hw, hw'])
          | (refine CallX.pure (l2) (by simp) (by simp) ?_; try simp [hw, hw'])
          | (refine CallK.intro (l2) (by simp) (by simp) ?_; try simp [hw, hw'])
          | (refine CallG.intro (fun _ => l2) (by simp) (by simp) ?_; try simp [hw, hw'])
          | ((with_reducible refine PreK.intro ?_ ?_); (next => (first | omega | (intros; first | omega | (refine ⟨by omega, ?_⟩; repeat (first | assumption | constructor)) | assumption))); intro _; try simp [hw, hw'])
          | fail)
        try simp [hw, hw']
        repeat (refine PreK.intro (by first | omega | (intros; first | omega | (refine ⟨by omega, ?_⟩; simp_all; done) | (simp_all; done) | (simp_all; omega))) fun _ => ?_; (try simp [hw, hw']))
        refine CondK.ff ?_
        try simp 
        try simp 
        repeat (refine PreK.intro (by first | omega | (intros; first | omega | (refine ⟨by omega, ?_⟩; simp_all; done) | (simp_all; done) | (simp_all; omega))) fun _ => ?_; (try simp ))
        have c2 := IsSpecial_c r s hr hs
        by_cases h1 : twoErr r s = 0
        · have hr0 : ruleErr r = 0 := by
            unfold twoErr at h1
            split at h1
            · exact h1
            · rename_i h2; simpa using h2
          have hs0 : ruleErr s = 0 := by
            unfold twoErr at h1
            rw [if_neg (by simpa using hr0)] at h1
            exact h1
          have hmr : (mirM r).small := ⟨by simpa [mirM] using hr.1, hr.2.2, hr.2.1⟩
          have hms : (mirM s).small := ⟨by simpa [mirM] using hs.1, hs.2.2, hs.2.1⟩
          have c3 := Mirror_c r hr
          have c4 := Mirror_c s hs
          have e3 : MirR r = (mirM r, 0) := by unfold MirR; rw [if_neg (by simpa using hr0)]
          have e4 : MirR s = (mirM s, 0) := by unfold MirR; rw [if_neg (by simpa using hs0)]
          rw [e3] at c3
          rw [e4] at c4
          have c5 := IsSpecial_c (mirM r) (mirM s) hmr hms
          rw [mir_spec, mir_two, h1] at c5
          have c6 := CanMeet_c r s hr hs
          rw [h1, decide_eq_true rfl, Bool.true_and] at c6
          rw [h1] at c2
          have hqm : specM r s = true → meetM r s = true := spec_meet
          have hqp : wordErr w = 0 → specM r s = true → ∀ x ∈ placesM r w, x ∈ placesM s w := fun h2 h3 => places_spec (List.all_eq_true.2 (word_snd h2)) h3
          have hqi : wordErr w = 0 → r.frm = s.frm → ∀ x, x ∈ placesM r w → x ∈ placesM s w → meetM r s = true := fun h2 h3 x h4 h5 => places_meet (List.all_eq_true.2 (word_snd h2)) h3 h4 h5
          generalize specM r s = q at *
          generalize meetM r s = m at *
          dsimp only at c3 c4
          try simp 
          repeat' (first
            | (refine CallX.pure (c2) (by simp) (by simp) ?_; try simp )
            | (refine CallK.intro (c2) (by simp) (by simp) ?_; try simp )
            | (refine CallG.intro (fun _ => c2) (by simp) (by simp) ?_; try simp )
            | ((with_reducible refine PreK.intro ?_ ?_); (next => (first | omega | (intros; first | omega | (refine ⟨by omega, ?_⟩; repeat (first | assumption | constructor)) | assumption))); intro _; try simp )
            | fail)
          try simp 
          repeat (refine PreK.intro (by first | omega | (intros; first | omega | (refine ⟨by omega, ?_⟩; simp_all; done) | (simp_all; done) | (simp_all; omega))) fun _ => ?_; (try simp ))
          refine CondK.ff ?_
          try simp 
          try simp 
          repeat (refine PreK.intro (by first | omega | (intros; first | omega | (refine ⟨by omega, ?_⟩; simp_all; done) | (simp_all; done) | (simp_all; omega))) fun _ => ?_; (try simp ))
          try simp 
          repeat' (first
            | (refine CallX.pure (c3) (by simp) (by simp) ?_; try simp )
            | (refine CallK.intro (c3) (by simp) (by simp) ?_; try simp )
            | (refine CallG.intro (fun _ => c3) (by simp) (by simp) ?_; try simp )
            | ((with_reducible refine PreK.intro ?_ ?_); (next => (first | omega | (intros; first | omega | (refine ⟨by omega, ?_⟩; repeat (first | assumption | constructor)) | assumption))); intro _; try simp )
            | fail)
          try simp 
          repeat (refine PreK.intro (by first | omega | (intros; first | omega | (refine ⟨by omega, ?_⟩; simp_all; done) | (simp_all; done) | (simp_all; omega))) fun _ => ?_; (try simp ))
          try simp 
          repeat' (first
            | (refine CallX.pure (c4) (by simp) (by simp) ?_; try simp )
            | (refine CallK.intro (c4) (by simp) (by simp) ?_; try simp )
            | (refine CallG.intro (fun _ => c4) (by simp) (by simp) ?_; try simp )
            | ((with_reducible refine PreK.intro ?_ ?_); (next => (first | omega | (intros; first | omega | (refine ⟨by omega, ?_⟩; repeat (first | assumption | constructor)) | assumption))); intro _; try simp )
            | fail)
          try simp 
          repeat (refine PreK.intro (by first | omega | (intros; first | omega | (refine ⟨by omega, ?_⟩; simp_all; done) | (simp_all; done) | (simp_all; omega))) fun _ => ?_; (try simp ))
          try simp 
          repeat' (first
            | (refine CallX.pure (c5) (by simp) (by simp) ?_; try simp )
            | (refine CallK.intro (c5) (by simp) (by simp) ?_; try simp )
            | (refine CallG.intro (fun _ => c5) (by simp) (by simp) ?_; try simp )
            | ((with_reducible refine PreK.intro ?_ ?_); (next => (first | omega | (intros; first | omega | (refine ⟨by omega, ?_⟩; repeat (first | assumption | constructor)) | assumption))); intro _; try simp )
            | fail)
          try simp 
          repeat (refine PreK.intro (by first | omega | (intros; first | omega | (refine ⟨by omega, ?_⟩; simp_all; done) | (simp_all; done) | (simp_all; omega))) fun _ => ?_; (try simp ))
          try simp 
          repeat' (first
            | (refine CallX.pure (c6) (by simp) (by simp) ?_; try simp )
            | (refine CallK.intro (c6) (by simp) (by simp) ?_; try simp )
            | (refine CallG.intro (fun _ => c6) (by simp) (by simp) ?_; try simp )
            | ((with_reducible refine PreK.intro ?_ ?_); (next => (first | omega | (intros; first | omega | (refine ⟨by omega, ?_⟩; repeat (first | assumption | constructor)) | assumption))); intro _; try simp )
            | fail)
          try simp 
          repeat (refine PreK.intro (by first | omega | (intros; first | omega | (refine ⟨by omega, ?_⟩; simp_all; done) | (simp_all; done) | (simp_all; omega))) fun _ => ?_; (try simp ))
          have hcond : (q && !m) = false := by
            cases q with
            | false => rfl
            | true => rw [hqm rfl]; rfl
          try simp [hcond]
          repeat (refine PreK.intro (by first | omega | (intros; first | omega | (refine ⟨by omega, ?_⟩; simp_all; done) | (simp_all; done) | (simp_all; omega))) fun _ => ?_; (try simp [hcond]))
          refine CondK.ff ?_
          try simp 
          try simp 
          repeat (refine PreK.intro (by first | omega | (intros; first | omega | (refine ⟨by omega, ?_⟩; simp_all; done) | (simp_all; done) | (simp_all; omega))) fun _ => ?_; (try simp ))
          have c7 := Places_c r w hr (by omega)
          by_cases h2 : wordedErr r w = 0
          · obtain ⟨_, h3⟩ := wordedErr_zero h2
            obtain ⟨h4, h5⟩ := wordErr_zero h3
            have h2s : wordedErr s w = 0 := by unfold wordedErr; rw [if_neg (by simpa using hs0)]; exact h3
            have e7 : PlacesM r w = (placesM r w, 0) := by unfold PlacesM; rw [if_neg (by simpa using h2)]
            have e8 : PlacesM s w = (placesM s w, 0) := by unfold PlacesM; rw [if_neg (by simpa using h2s)]
            have c8 := Places_c s w hs (by omega)
            rw [e7] at c7
            rw [e8] at c8
            dsimp only at c7 c8
            have c9 := Back_c w (by omega)
            rw [h3, if_neg (by decide)] at c9
            have hqp := hqp h3
            have hqi := hqi h3
            have hLl : (placesM r w).length ≤ 9 := by
              have := placesF_len r w (w.length + 1 - (long r).toNat) 0
              show (placesF r w 0 (w.length + 1 - (long r).toNat)).length ≤ 9
              omega
            have hMl : (placesM s w).length ≤ 9 := by
              have := placesF_len s w (w.length + 1 - (long s).toNat) 0
              show (placesF s w 0 (w.length + 1 - (long s).toNat)).length ≤ 9
              omega
            try simp 
            repeat' (first
              | (refine CallX.pure (c7) (by simp) (by simp) ?_; try simp )
              | (refine CallK.intro (c7) (by simp) (by simp) ?_; try simp )
              | (refine CallG.intro (fun _ => c7) (by simp) (by simp) ?_; try simp )
              | ((with_reducible refine PreK.intro ?_ ?_); (next => (first | omega | (intros; first | omega | (refine ⟨by omega, ?_⟩; repeat (first | assumption | constructor)) | assumption))); intro _; try simp )
              | fail)
            try simp 
            repeat (refine PreK.intro (by first | omega | (intros; first | omega | (refine ⟨by omega, ?_⟩; simp_all; done) | (simp_all; done) | (simp_all; omega))) fun _ => ?_; (try simp ))
            refine CondK.ff ?_
            try simp 
            try simp 
            repeat (refine PreK.intro (by first | omega | (intros; first | omega | (refine ⟨by omega, ?_⟩; simp_all; done) | (simp_all; done) | (simp_all; omega))) fun _ => ?_; (try simp ))
            try simp 
            repeat' (first
              | (refine CallX.pure (c8) (by simp) (by simp) ?_; try simp )
              | (refine CallK.intro (c8) (by simp) (by simp) ?_; try simp )
              | (refine CallG.intro (fun _ => c8) (by simp) (by simp) ?_; try simp )
              | ((with_reducible refine PreK.intro ?_ ?_); (next => (first | omega | (intros; first | omega | (refine ⟨by omega, ?_⟩; repeat (first | assumption | constructor)) | assumption))); intro _; try simp )
              | fail)
            try simp 
            repeat (refine PreK.intro (by first | omega | (intros; first | omega | (refine ⟨by omega, ?_⟩; simp_all; done) | (simp_all; done) | (simp_all; omega))) fun _ => ?_; (try simp ))
            try simp 
            repeat' (first
              | (refine CallX.pure (c9) (by simp) (by simp) ?_; try simp )
              | (refine CallK.intro (c9) (by simp) (by simp) ?_; try simp )
              | (refine CallG.intro (fun _ => c9) (by simp) (by simp) ?_; try simp )
              | ((with_reducible refine PreK.intro ?_ ?_); (next => (first | omega | (intros; first | omega | (refine ⟨by omega, ?_⟩; repeat (first | assumption | constructor)) | assumption))); intro _; try simp )
              | fail)
            try simp 
            repeat (refine PreK.intro (by first | omega | (intros; first | omega | (refine ⟨by omega, ?_⟩; simp_all; done) | (simp_all; done) | (simp_all; omega))) fun _ => ?_; (try simp ))
            refine CondK.ff ?_
            try simp 
            try simp 
            repeat (refine PreK.intro (by first | omega | (intros; first | omega | (refine ⟨by omega, ?_⟩; simp_all; done) | (simp_all; done) | (simp_all; omega))) fun _ => ?_; (try simp ))
            refine LoopK.by (ι := Nat) (fun i => ⟨[(19, iv i), (1, ints w), (2, .pt 2 1 0 0), (7, bv q), (9, .pt 9 1 0 0), (14, bv m), (16, ints (placesM r w)), (17, ints (placesM s w)), (18, ints w.reverse)], [(2, some ⟨8, [twoV (r, s)], 1, true⟩), (9, some ⟨4, [ruleV (mirM r)], 1, true⟩)]⟩) (fun i => (placesM r w).length - i) (fun i => i ≤ (placesM r w).length) 0 (Nat.zero_le _) (by simp) ?_
            intro i Q' hi hq he hr'
            by_cases h6 : i < (placesM r w).length
            · have h6' : (i : Int) < (placesM r w).length := by omega
              have hx := el_mem_of (placesM r w) i h6
              have c10 := rHas_c (placesM s w) (el (placesM r w) i) (by omega)
              have hin : ((placesM s w).any fun x => decide (el (placesM r w) i = x)) = decide (el (placesM r w) i ∈ placesM s w) := by
                rw [Bool.eq_iff_iff, List.any_eq_true, decide_eq_true_eq]
                constructor
                · rintro ⟨x, hx1, hx2⟩
                  rw [decide_eq_true_eq] at hx2
                  rw [hx2]; exact hx1
                · intro hx1
                  exact ⟨_, hx1, by simp⟩
              rw [hin] at c10
              try simp [h6, h6']
              repeat (refine PreK.intro (by first | omega | (intros; first | omega | (refine ⟨by omega, ?_⟩; simp_all; done) | (simp_all; done) | (simp_all; omega))) fun _ => ?_; (try simp [h6, h6']))
              refine CondK.tt ?_
              try simp 
              try simp [h6, h6']
              repeat (refine PreK.intro (by first | omega | (intros; first | omega | (refine ⟨by omega, ?_⟩; simp_all; done) | (simp_all; done) | (simp_all; omega))) fun _ => ?_; (try simp [h6, h6']))
              try simp 
              repeat' (first
                | (refine CallX.pure (c10) (by simp) (by simp) ?_; try simp )
                | (refine CallK.intro (c10) (by simp) (by simp) ?_; try simp )
                | (refine CallG.intro (fun _ => c10) (by simp) (by simp) ?_; try simp )
                | ((with_reducible refine PreK.intro ?_ ?_); (next => (first | omega | (intros; first | omega | (refine ⟨by omega, ?_⟩; repeat (first | assumption | constructor)) | assumption))); intro _; try simp )
                | fail)
              try simp 
              repeat (refine PreK.intro (by first | omega | (intros; first | omega | (refine ⟨by omega, ?_⟩; simp_all; done) | (simp_all; done) | (simp_all; omega))) fun _ => ?_; (try simp ))
              by_cases h7 : el (placesM r w) i ∈ placesM s w
              · have hd : decide (el (placesM r w) i ∈ placesM s w) = true := decide_eq_true h7
                by_cases h8 : r.frm = s.frm
                · have hm := hqi h8 _ hx h7
                  try simp [hd, h7, hm]
                  repeat (refine PreK.intro (by first | omega | (intros; first | omega | (refine ⟨by omega, ?_⟩; simp_all; done) | (simp_all; done) | (simp_all; omega))) fun _ => ?_; (try simp [hd, h7, hm]))
                  refine CondK.ff ?_
                  try simp 
                  try simp 
                  repeat (refine PreK.intro (by first | omega | (intros; first | omega | (refine ⟨by omega, ?_⟩; simp_all; done) | (simp_all; done) | (simp_all; omega))) fun _ => ?_; (try simp ))
                  exact hq (i + 1) _ (by omega) (by omega) (by simp [hm])
                · cases m with
                  | true =>
                    try simp [hd, h7]
                    repeat (refine PreK.intro (by first | omega | (intros; first | omega | (refine ⟨by omega, ?_⟩; simp_all; done) | (simp_all; done) | (simp_all; omega))) fun _ => ?_; (try simp [hd, h7]))
                    refine CondK.ff ?_
                    try simp 
                    try simp 
                    repeat (refine PreK.intro (by first | omega | (intros; first | omega | (refine ⟨by omega, ?_⟩; simp_all; done) | (simp_all; done) | (simp_all; omega))) fun _ => ?_; (try simp ))
                    exact hq (i + 1) _ (by omega) (by omega) (by simp)
                  | false =>
                    try simp [hd, h7, h8]
                    repeat (refine PreK.intro (by first | omega | (intros; first | omega | (refine ⟨by omega, ?_⟩; simp_all; done) | (simp_all; done) | (simp_all; omega))) fun _ => ?_; (try simp [hd, h7, h8]))
                    refine CondK.ff ?_
                    try simp 
                    try simp 
                    repeat (refine PreK.intro (by first | omega | (intros; first | omega | (refine ⟨by omega, ?_⟩; simp_all; done) | (simp_all; done) | (simp_all; omega))) fun _ => ?_; (try simp ))
                    exact hq (i + 1) _ (by omega) (by omega) (by simp)
              · have hd : decide (el (placesM r w) i ∈ placesM s w) = false := decide_eq_false h7
                have hqf : q = false := by
                  cases q with
                  | false => rfl
                  | true => exact absurd (hqp rfl _ hx) h7
                try simp [hd, h7, hqf]
                repeat (refine PreK.intro (by first | omega | (intros; first | omega | (refine ⟨by omega, ?_⟩; simp_all; done) | (simp_all; done) | (simp_all; omega))) fun _ => ?_; (try simp [hd, h7, hqf]))
                refine CondK.ff ?_
                try simp 
                try simp 
                repeat (refine PreK.intro (by first | omega | (intros; first | omega | (refine ⟨by omega, ?_⟩; simp_all; done) | (simp_all; done) | (simp_all; omega))) fun _ => ?_; (try simp ))
                exact hq (i + 1) _ (by omega) (by omega) (by simp [hqf])
            · have h6' : ¬ (i : Int) < (placesM r w).length := by omega
              try simp [h6, h6']
              repeat (refine PreK.intro (by first | omega | (intros; first | omega | (refine ⟨by omega, ?_⟩; simp_all; done) | (simp_all; done) | (simp_all; omega))) fun _ => ?_; (try simp [h6, h6']))
              refine CondK.ff ?_
              try simp 
              apply he
              try simp 
              repeat (refine PreK.intro (by first | omega | (intros; first | omega | (refine ⟨by omega, ?_⟩; simp_all; done) | (simp_all; done) | (simp_all; omega))) fun _ => ?_; (try simp ))
              have f1 := AtAll_c r w hr (by omega)
              have f2 := AtAll_c (mirM r) w.reverse hmr (by simp only [List.length_reverse]; omega)
              have hwm : wordedErr (mirM r) w.reverse = 0 := by
                unfold wordedErr
                rw [mir_err, if_neg (by simpa using hr0), rev_err]
                exact h3
              have hto2 := ruleErr_to hr0
              have hto : r.to.length = 0 ∨ r.to.length = 1 ∨ r.to.length = 2 := by omega
              obtain ⟨⟨hf0, hf1⟩, _⟩ := ruleErr_snd hr0
              rcases long_one r with ⟨hlg, hfm⟩ | ⟨hlg, hfm⟩
              · have hfr : ¬ (0 : Int) ≤ r.frm := by omega
                have hAl : ((allM r w).length : Int) = w.length + (r.to.length : Int) * (placesM r w).length := by
                  rw [all_len, hlg, Int.sub_zero]
                have hub : -18 ≤ (r.to.length : Int) * ((placesM r w).length : Int) ∧ (r.to.length : Int) * ((placesM r w).length : Int) ≤ 18 := by
                  rcases hto with e | e | e <;> rw [e] <;> omega
                by_cases h9 : 8 < (allM r w).length
                · have e1 : AtAllR r w = ([], 3) := by unfold AtAllR; rw [if_neg (by simpa using h2), if_pos h9]
                  have e2 : AtAllR (mirM r) w.reverse = ([], 3) := by unfold AtAllR; rw [if_neg (by simpa using hwm), all_mir, if_pos (by simpa using h9)]
                  rw [e1] at f1
                  rw [e2] at f2
                  dsimp only at f1 f2
                  have hgt : (8 : Int) < w.length + (r.to.length : Int) * ((placesM r w).length : Int) := by omega
                  refine CallX.pure (by simpa using f1) (by simp) (by simp) ?_
                  try simp 
                  try simp 
                  repeat (refine PreK.intro (by first | omega | (intros; first | omega | (refine ⟨by omega, ?_⟩; simp_all; done) | (simp_all; done) | (simp_all; omega))) fun _ => ?_; (try simp ))
                  refine CallX.pure (by simpa using f2) (by simp) (by simp) ?_
                  try simp 
                  try simp 
                  repeat (refine PreK.intro (by first | omega | (intros; first | omega | (refine ⟨by omega, ?_⟩; simp_all; done) | (simp_all; done) | (simp_all; omega))) fun _ => ?_; (try simp ))
                  refine CondK.ff ?_
                  try simp 
                  try simp [hfr]
                  repeat (refine PreK.intro (by first | omega | (intros; first | omega | (refine ⟨by omega, ?_⟩; simp_all; done) | (simp_all; done) | (simp_all; omega))) fun _ => ?_; (try simp [hfr]))
                  refine CondK.ff ?_
                  try simp 
                  try simp [hgt]
                  repeat (refine PreK.intro (by first | omega | (intros; first | omega | (refine ⟨by omega, ?_⟩; simp_all; done) | (simp_all; done) | (simp_all; omega))) fun _ => ?_; (try simp [hgt]))
                  refine CondK.tt ?_
                  try simp 
                  try simp [hgt]
                  repeat (refine PreK.intro (by first | omega | (intros; first | omega | (refine ⟨by omega, ?_⟩; simp_all; done) | (simp_all; done) | (simp_all; omega))) fun _ => ?_; (try simp [hgt]))
                  done
                · have hA8 : (allM r w).length ≤ 8 := by omega
                  have e1 : AtAllR r w = (allM r w, 0) := by unfold AtAllR; rw [if_neg (by simpa using h2), if_neg h9]
                  have e2 : AtAllR (mirM r) w.reverse = ((allM r w).reverse, 0) := by unfold AtAllR; rw [if_neg (by simpa using hwm), all_mir, if_neg (by simpa using h9)]
                  rw [e1] at f1
                  rw [e2] at f2
                  dsimp only at f1 f2
                  have hAs : wordErr (allM r w) = 0 := by
                    refine wordErr_of hA8 ?_
                    rw [all_rest]
                    exact rest_snd (ruleErr_snd hr0).2 (word_snd h3) _ _ (by omega)
                  have f3 := Back_c (allM r w) (by omega)
                  rw [hAs, if_neg (by decide)] at f3
                  have f4 := First_c r w hr (by omega)
                  have f5 := same1r_c (allM r w).reverse (allM r w).reverse (by simp only [big, List.length_reverse]; omega)
                  have heq : ((allM r w).length : Int) = w.length + (r.to.length : Int) * ((placesM r w).length : Int) := hAl
                  refine CallX.pure (by simpa using f1) (by simp) (by simp) ?_
                  try simp 
                  try simp 
                  repeat (refine PreK.intro (by first | omega | (intros; first | omega | (refine ⟨by omega, ?_⟩; simp_all; done) | (simp_all; done) | (simp_all; omega))) fun _ => ?_; (try simp ))
                  refine CallX.pure (by simpa using f2) (by simp) (by simp) ?_
                  try simp 
                  try simp 
                  repeat (refine PreK.intro (by first | omega | (intros; first | omega | (refine ⟨by omega, ?_⟩; simp_all; done) | (simp_all; done) | (simp_all; omega))) fun _ => ?_; (try simp ))
                  refine CondK.ff ?_
                  try simp 
                  try simp [hfr]
                  repeat (refine PreK.intro (by first | omega | (intros; first | omega | (refine ⟨by omega, ?_⟩; simp_all; done) | (simp_all; done) | (simp_all; omega))) fun _ => ?_; (try simp [hfr]))
                  refine CondK.ff ?_
                  try simp 
                  try simp 
                  repeat (refine PreK.intro (by first | omega | (intros; first | omega | (refine ⟨by omega, ?_⟩; simp_all; done) | (simp_all; done) | (simp_all; omega))) fun _ => ?_; (try simp ))
                  refine CondK.ff ?_
                  try simp 
                  try simp 
                  repeat (refine PreK.intro (by first | omega | (intros; first | omega | (refine ⟨by omega, ?_⟩; simp_all; done) | (simp_all; done) | (simp_all; omega))) fun _ => ?_; (try simp ))
                  refine CallX.pure (by simpa using f3) (by simp) (by simp) ?_
                  try simp 
                  try simp 
                  repeat (refine PreK.intro (by first | omega | (intros; first | omega | (refine ⟨by omega, ?_⟩; simp_all; done) | (simp_all; done) | (simp_all; omega))) fun _ => ?_; (try simp ))
                  by_cases h10 : placesM r w = []
                  · have e4 : FirstR r w = ([], false, 0) := by unfold FirstR; rw [if_neg (by simpa using h2), if_pos h10]
                    rw [e4] at f4
                    dsimp only at f4
                    have h10' : (placesM r w).length = 0 := by rw [h10]; rfl
                    rw [h10] at heq
                    refine CallX.pure (by simpa using f4) (by simp) (by simp) ?_
                    try simp 
                    try simp 
                    repeat (refine PreK.intro (by first | omega | (intros; first | omega | (refine ⟨by omega, ?_⟩; simp_all; done) | (simp_all; done) | (simp_all; omega))) fun _ => ?_; (try simp ))
                    refine CallG.intro (fun _ => by simpa using f5) (by simp) (by simp) ?_
                    try simp [heq, h10]
                    repeat (refine PreK.intro (by first | omega | (intros; first | omega | (refine ⟨by omega, ?_⟩; simp_all; done) | (simp_all; done) | (simp_all; omega))) fun _ => ?_; (try simp [heq, h10]))
                    refine CondK.ff ?_
                    try simp 
                    try simp 
                    repeat (refine PreK.intro (by first | omega | (intros; first | omega | (refine ⟨by omega, ?_⟩; simp_all; done) | (simp_all; done) | (simp_all; omega))) fun _ => ?_; (try simp ))
                    done
                  · obtain ⟨j, ej, hj⟩ := place_first h10
                    have hpos : 0 < (placesM r w).length := by
                      cases hp9 : placesM r w with
                      | nil => exact absurd hp9 h10
                      | cons a l => simp
                    have hpl := put_len r w j hj
                    rw [hlg] at hpl
                    have hp8 : (putW r w j).length ≤ 8 := by
                      have h11 : (r.to.length : Int) ≤ 0 ∨ (r.to.length : Int) ≤ (r.to.length : Int) * ((placesM r w).length : Int) := by
                        rcases hto with e | e | e <;> rw [e] <;> omega
                      omega
                    have e4 : FirstR r w = (putW r w j, true, 0) := by unfold FirstR; rw [if_neg (by simpa using h2), if_neg h10, ej, Int.toNat_natCast, if_neg (by omega)]
                    rw [e4] at f4
                    dsimp only at f4
                    have hlast : ((putW r w j).length : Int) = w.length + (r.to.length : Int) := by omega
                    have hpos' : (0 : Int) < (placesM r w).length := by omega
                    refine CallX.pure (by simpa using f4) (by simp) (by simp) ?_
                    try simp 
                    try simp 
                    repeat (refine PreK.intro (by first | omega | (intros; first | omega | (refine ⟨by omega, ?_⟩; simp_all; done) | (simp_all; done) | (simp_all; omega))) fun _ => ?_; (try simp ))
                    refine CallG.intro (fun _ => by simpa using f5) (by simp) (by simp) ?_
                    try simp [heq, h10, hpos, hpos']
                    repeat (refine PreK.intro (by first | omega | (intros; first | omega | (refine ⟨by omega, ?_⟩; simp_all; done) | (simp_all; done) | (simp_all; omega))) fun _ => ?_; (try simp [heq, h10, hpos, hpos']))
                    refine CondK.ff ?_
                    try simp 
                    try simp [hlast]
                    repeat (refine PreK.intro (by first | omega | (intros; first | omega | (refine ⟨by omega, ?_⟩; simp_all; done) | (simp_all; done) | (simp_all; omega))) fun _ => ?_; (try simp [hlast]))
                    done
              · have hfr : (0 : Int) ≤ r.frm := by omega
                have hAl : ((allM r w).length : Int) = w.length + ((r.to.length : Int) - 1) * (placesM r w).length := by
                  rw [all_len, hlg]
                have hub : -18 ≤ ((r.to.length : Int) - 1) * ((placesM r w).length : Int) ∧ ((r.to.length : Int) - 1) * ((placesM r w).length : Int) ≤ 18 := by
                  rcases hto with e | e | e <;> rw [e] <;> omega
                by_cases h9 : 8 < (allM r w).length
                · have e1 : AtAllR r w = ([], 3) := by unfold AtAllR; rw [if_neg (by simpa using h2), if_pos h9]
                  have e2 : AtAllR (mirM r) w.reverse = ([], 3) := by unfold AtAllR; rw [if_neg (by simpa using hwm), all_mir, if_pos (by simpa using h9)]
                  rw [e1] at f1
                  rw [e2] at f2
                  dsimp only at f1 f2
                  have hgt : (8 : Int) < w.length + ((r.to.length : Int) - 1) * ((placesM r w).length : Int) := by omega
                  refine CallX.pure (by simpa using f1) (by simp) (by simp) ?_
                  try simp 
                  try simp 
                  repeat (refine PreK.intro (by first | omega | (intros; first | omega | (refine ⟨by omega, ?_⟩; simp_all; done) | (simp_all; done) | (simp_all; omega))) fun _ => ?_; (try simp ))
                  refine CallX.pure (by simpa using f2) (by simp) (by simp) ?_
                  try simp 
                  try simp 
                  repeat (refine PreK.intro (by first | omega | (intros; first | omega | (refine ⟨by omega, ?_⟩; simp_all; done) | (simp_all; done) | (simp_all; omega))) fun _ => ?_; (try simp ))
                  refine CondK.ff ?_
                  try simp 
                  try simp [hfr]
                  repeat (refine PreK.intro (by first | omega | (intros; first | omega | (refine ⟨by omega, ?_⟩; simp_all; done) | (simp_all; done) | (simp_all; omega))) fun _ => ?_; (try simp [hfr]))
                  refine CondK.tt ?_
                  try simp 
                  try simp [hgt]
                  repeat (refine PreK.intro (by first | omega | (intros; first | omega | (refine ⟨by omega, ?_⟩; simp_all; done) | (simp_all; done) | (simp_all; omega))) fun _ => ?_; (try simp [hgt]))
                  refine CondK.tt ?_
                  try simp 
                  try simp [hgt]
                  repeat (refine PreK.intro (by first | omega | (intros; first | omega | (refine ⟨by omega, ?_⟩; simp_all; done) | (simp_all; done) | (simp_all; omega))) fun _ => ?_; (try simp [hgt]))
                  done
                · have hA8 : (allM r w).length ≤ 8 := by omega
                  have e1 : AtAllR r w = (allM r w, 0) := by unfold AtAllR; rw [if_neg (by simpa using h2), if_neg h9]
                  have e2 : AtAllR (mirM r) w.reverse = ((allM r w).reverse, 0) := by unfold AtAllR; rw [if_neg (by simpa using hwm), all_mir, if_neg (by simpa using h9)]
                  rw [e1] at f1
                  rw [e2] at f2
                  dsimp only at f1 f2
                  have hAs : wordErr (allM r w) = 0 := by
                    refine wordErr_of hA8 ?_
                    rw [all_rest]
                    exact rest_snd (ruleErr_snd hr0).2 (word_snd h3) _ _ (by omega)
                  have f3 := Back_c (allM r w) (by omega)
                  rw [hAs, if_neg (by decide)] at f3
                  have f4 := First_c r w hr (by omega)
                  have f5 := same1r_c (allM r w).reverse (allM r w).reverse (by simp only [big, List.length_reverse]; omega)
                  have heq : ((allM r w).length : Int) = w.length + ((r.to.length : Int) - 1) * ((placesM r w).length : Int) := hAl
                  refine CallX.pure (by simpa using f1) (by simp) (by simp) ?_
                  try simp 
                  try simp 
                  repeat (refine PreK.intro (by first | omega | (intros; first | omega | (refine ⟨by omega, ?_⟩; simp_all; done) | (simp_all; done) | (simp_all; omega))) fun _ => ?_; (try simp ))
                  refine CallX.pure (by simpa using f2) (by simp) (by simp) ?_
                  try simp 
                  try simp 
                  repeat (refine PreK.intro (by first | omega | (intros; first | omega | (refine ⟨by omega, ?_⟩; simp_all; done) | (simp_all; done) | (simp_all; omega))) fun _ => ?_; (try simp ))
                  refine CondK.ff ?_
                  try simp 
                  try simp [hfr]
                  repeat (refine PreK.intro (by first | omega | (intros; first | omega | (refine ⟨by omega, ?_⟩; simp_all; done) | (simp_all; done) | (simp_all; omega))) fun _ => ?_; (try simp [hfr]))
                  refine CondK.tt ?_
                  try simp 
                  try simp 
                  repeat (refine PreK.intro (by first | omega | (intros; first | omega | (refine ⟨by omega, ?_⟩; simp_all; done) | (simp_all; done) | (simp_all; omega))) fun _ => ?_; (try simp ))
                  refine CondK.ff ?_
                  try simp 
                  try simp 
                  repeat (refine PreK.intro (by first | omega | (intros; first | omega | (refine ⟨by omega, ?_⟩; simp_all; done) | (simp_all; done) | (simp_all; omega))) fun _ => ?_; (try simp ))
                  refine CallX.pure (by simpa using f3) (by simp) (by simp) ?_
                  try simp 
                  try simp 
                  repeat (refine PreK.intro (by first | omega | (intros; first | omega | (refine ⟨by omega, ?_⟩; simp_all; done) | (simp_all; done) | (simp_all; omega))) fun _ => ?_; (try simp ))
                  by_cases h10 : placesM r w = []
                  · have e4 : FirstR r w = ([], false, 0) := by unfold FirstR; rw [if_neg (by simpa using h2), if_pos h10]
                    rw [e4] at f4
                    dsimp only at f4
                    have h10' : (placesM r w).length = 0 := by rw [h10]; rfl
                    rw [h10] at heq
                    refine CallX.pure (by simpa using f4) (by simp) (by simp) ?_
                    try simp 
                    try simp 
                    repeat (refine PreK.intro (by first | omega | (intros; first | omega | (refine ⟨by omega, ?_⟩; simp_all; done) | (simp_all; done) | (simp_all; omega))) fun _ => ?_; (try simp ))
                    refine CallG.intro (fun _ => by simpa using f5) (by simp) (by simp) ?_
                    try simp [heq, h10]
                    repeat (refine PreK.intro (by first | omega | (intros; first | omega | (refine ⟨by omega, ?_⟩; simp_all; done) | (simp_all; done) | (simp_all; omega))) fun _ => ?_; (try simp [heq, h10]))
                    refine CondK.ff ?_
                    try simp 
                    try simp 
                    repeat (refine PreK.intro (by first | omega | (intros; first | omega | (refine ⟨by omega, ?_⟩; simp_all; done) | (simp_all; done) | (simp_all; omega))) fun _ => ?_; (try simp ))
                    done
                  · obtain ⟨j, ej, hj⟩ := place_first h10
                    have hpos : 0 < (placesM r w).length := by
                      cases hp9 : placesM r w with
                      | nil => exact absurd hp9 h10
                      | cons a l => simp
                    have hpl := put_len r w j hj
                    rw [hlg] at hpl
                    have hp8 : (putW r w j).length ≤ 8 := by
                      have h11 : ((r.to.length : Int) - 1) ≤ 0 ∨ ((r.to.length : Int) - 1) ≤ ((r.to.length : Int) - 1) * ((placesM r w).length : Int) := by
                        rcases hto with e | e | e <;> rw [e] <;> omega
                      omega
                    have e4 : FirstR r w = (putW r w j, true, 0) := by unfold FirstR; rw [if_neg (by simpa using h2), if_neg h10, ej, Int.toNat_natCast, if_neg (by omega)]
                    rw [e4] at f4
                    dsimp only at f4
                    have hlast : ((putW r w j).length : Int) = w.length + ((r.to.length : Int) - 1) := by omega
                    have hpos' : (0 : Int) < (placesM r w).length := by omega
                    refine CallX.pure (by simpa using f4) (by simp) (by simp) ?_
                    try simp 
                    try simp 
                    repeat (refine PreK.intro (by first | omega | (intros; first | omega | (refine ⟨by omega, ?_⟩; simp_all; done) | (simp_all; done) | (simp_all; omega))) fun _ => ?_; (try simp ))
                    refine CallG.intro (fun _ => by simpa using f5) (by simp) (by simp) ?_
                    try simp [heq, h10, hpos, hpos']
                    repeat (refine PreK.intro (by first | omega | (intros; first | omega | (refine ⟨by omega, ?_⟩; simp_all; done) | (simp_all; done) | (simp_all; omega))) fun _ => ?_; (try simp [heq, h10, hpos, hpos']))
                    refine CondK.ff ?_
                    try simp 
                    try simp [hlast]
                    repeat (refine PreK.intro (by first | omega | (intros; first | omega | (refine ⟨by omega, ?_⟩; simp_all; done) | (simp_all; done) | (simp_all; omega))) fun _ => ?_; (try simp [hlast]))
                    done
          · have e7 : PlacesM r w = ([], wordedErr r w) := by unfold PlacesM; rw [if_pos h2]
            rw [e7] at c7
            dsimp only at c7
            try simp 
            repeat' (first
              | (refine CallX.pure (c7) (by simp) (by simp) ?_; try simp )
              | (refine CallK.intro (c7) (by simp) (by simp) ?_; try simp )
              | (refine CallG.intro (fun _ => c7) (by simp) (by simp) ?_; try simp )
              | ((with_reducible refine PreK.intro ?_ ?_); (next => (first | omega | (intros; first | omega | (refine ⟨by omega, ?_⟩; repeat (first | assumption | constructor)) | assumption))); intro _; try simp )
              | fail)
            try simp [h2]
            repeat (refine PreK.intro (by first | omega | (intros; first | omega | (refine ⟨by omega, ?_⟩; simp_all; done) | (simp_all; done) | (simp_all; omega))) fun _ => ?_; (try simp [h2]))
            refine CondK.tt ?_
            try simp 
            try simp 
            repeat (refine PreK.intro (by first | omega | (intros; first | omega | (refine ⟨by omega, ?_⟩; simp_all; done) | (simp_all; done) | (simp_all; omega))) fun _ => ?_; (try simp ))
        · try simp 
          repeat' (first
            | (refine CallX.pure (c2) (by simp) (by simp) ?_; try simp )
            | (refine CallK.intro (c2) (by simp) (by simp) ?_; try simp )
            | (refine CallG.intro (fun _ => c2) (by simp) (by simp) ?_; try simp )
            | ((with_reducible refine PreK.intro ?_ ?_); (next => (first | omega | (intros; first | omega | (refine ⟨by omega, ?_⟩; repeat (first | assumption | constructor)) | assumption))); intro _; try simp )
            | fail)
          try simp [h1]
          repeat (refine PreK.intro (by first | omega | (intros; first | omega | (refine ⟨by omega, ?_⟩; simp_all; done) | (simp_all; done) | (simp_all; omega))) fun _ => ?_; (try simp [h1]))
          refine CondK.tt ?_
          try simp 
          try simp 
          repeat (refine PreK.intro (by first | omega | (intros; first | omega | (refine ⟨by omega, ?_⟩; simp_all; done) | (simp_all; done) | (simp_all; omega))) fun _ => ?_; (try simp ))
end Go.Proofs.Ytkhddecnllcaiaa
end
