/- Part 9 of the proof: the value layer and the contracts of the functions that the statement reaches; proved without conditions beyond those each theorem states. -/
import Derived.Test.YtkhddecnllcaiaaV5
import Derived.Test.YtkhddecnllcaiaaV7
import Derived.Test.YtkhddecnllcaiaaV8
set_option linter.unusedSimpArgs false
set_option linter.unusedVariables false

section
/- PURSE -/
/- The statement FeedWithout: a system without a rule, in new memory. (written by mkww.py) -/
namespace Go.Proofs.Ytkhddecnllcaiaa
open Go.Abs Go
set_option maxRecDepth 20000
set_option maxHeartbeats 8000000
attribute [local irreducible] PreK CondK CallK CallG CallX LoopK
attribute [local simp] avsEq avEq akind teq vkind vEq
attribute [local irreducible] ShiftK

theorem CH5 {args : List AV} {r : AV} (hn : args.length ≤ 108) (h : vcH Try.prog T [] [56, 17] A5 (FinH T [.tmp 6] r) (none, ⟨envOf 0 args, []⟩)) : CallP Try.prog 5 args r :=
  callP_ofH tok mixed Try.func5 (by kernel_rfl) (by kernel_rfl) (by kernel_rfl : Try.f5.ntmps = 108) (by kernel_rfl : Try.f5.body.bind (strip 108 (fun _ => [])) = some A5) hn h
theorem ReachE_small {s : List Rule} {w : Word} : (ReachE s w).1.length ≤ 1000 ∧ ∀ x ∈ (ReachE s w).1, x.length ≤ 1000 := by
  unfold ReachE
  by_cases h0 : swErr s w = 0
  · simp only [h0, ne_eq, not_true_eq_false, if_false]
    cases hg : reachG s w with
    | none => simp
    | some g =>
      have hok := reachG_ok h0 hg
      have hnum := hok.num
      have h1 := uniq_len g.ws
      dsimp only
      refine ⟨by omega, fun x hx => ?_⟩
      have := (wordErr_zero (hok.fine x (((uniq_sorted g.ws).2 x).1 hx))).1
      omega
  · simp [h0]
theorem firstErr_all : ∀ {s : List Rule}, (∀ r ∈ s, ruleErr r = 0) → firstErr s = 0
  | [], _ => rfl
  | r :: s, h => by
    rw [firstErr, if_neg (by simp [h r (by simp)])]
    exact firstErr_all fun x hx => h x (by simp [hx])
theorem sysErr_less {s : List Rule} {k : Nat} (h : sysErr s = 0) : sysErr (s.eraseIdx k) = 0 := by
  obtain ⟨h1, h2⟩ := sysErr_zero h
  unfold sysErr
  have := List.length_eraseIdx_le s k
  rw [if_neg (by omega)]
  exact firstErr_all fun r hr => h2 r (List.mem_of_mem_eraseIdx hr)
theorem less_small {s : List Rule} {n : Nat} (h : Sys.small s) : Sys.small (s.eraseIdx n) := by
  refine ⟨?_, fun r hr => h.2 r (List.mem_of_mem_eraseIdx hr)⟩
  have := List.length_eraseIdx_le s n
  have := h.1
  omega
/-- No new words are reached. -/
theorem without_law {s : List Rule} {w : Word} {n : Nat} (h0 : sysErr s = 0) (h : (ReachE s w).2 = 0) : (ReachE (s.eraseIdx n) w).2 = 0 ∧ partB (ReachE (s.eraseIdx n) w).1 (ReachE s w).1 = true := by
  unfold ReachE at h ⊢
  by_cases h1 : swErr s w = 0
  · have h2 : swErr (s.eraseIdx n) w = 0 := by unfold swErr; rw [if_neg (by simp [sysErr_less h0])]; exact (swErr_zero h1).2
    simp only [h1, h2, ne_eq, not_true_eq_false, if_false] at h ⊢
    cases hg : reachG s w with
    | none => rw [hg] at h; cases h
    | some g =>
      obtain ⟨g', k1, k2⟩ := reachG_sub (s' := s.eraseIdx n) hg (fun m x hx => ⟨m, reach_less m x hx⟩)
      rw [k1]
      refine ⟨rfl, ?_⟩
      unfold partB
      rw [List.all_eq_true]
      intro x hx
      rw [List.any_eq_true]
      exact ⟨x, ((uniq_sorted _).2 x).2 (k2 x (((uniq_sorted _).2 x).1 hx)), by simp⟩
  · simp only [h1, ne_eq, not_false_eq_true, if_true] at h
theorem without_ok {s : List Rule} {k : Int} (h : (WithoutL s k).2 = 0) : sysErr s = 0 ∧ ∃ n : Nat, k = (n : Int) ∧ n < s.length ∧ WithoutL s k = (s.eraseIdx n, 0) := by
  unfold WithoutL at h
  split at h
  · rename_i h1; exact absurd h h1
  · rename_i h1
    split at h
    · cases h
    · rename_i h2
      have h2' : (decide (0 ≤ k) && decide (k ≤ (s.length : Int) - 1)) = true := by
        cases hh : (decide (0 ≤ k) && decide (k ≤ (s.length : Int) - 1)) with
        | true => rfl
        | false => exact absurd hh h2
      have h3 := h2'
      simp only [Bool.and_eq_true, decide_eq_true_eq] at h3
      obtain ⟨n, rfl⟩ : ∃ n : Nat, k = (n : Int) := ⟨k.toNat, by omega⟩
      refine ⟨by simpa using h1, n, rfl, by omega, ?_⟩
      unfold WithoutL
      rw [if_neg h1, if_neg (by rw [h2']; simp), Int.toNat_natCast]
def namU : Nat → List Rule → List AV
  | _, [] => []
  | j, r :: l => .agg [iv r.frm, .sl (1100 + j) 1 0 r.to.length, ints r.left, ints r.right] :: namU (j + 1) l
def rowU : Nat → List (List Int) → List (Nat × Option Box)
  | _, [] => []
  | j, x :: l => (1100 + j, some ⟨1, x.map iv, 1, false⟩) :: rowU (j + 1) l
theorem len_of {α β : Type} {f : α → Nat} {g : β → Nat} {l : List α} {m : List β} (h : l.map f = m.map g) : l.length = m.length := by
  have := congrArg List.length h
  simpa using this
theorem without_at0 (s : List Rule) (n : Nat) (w : List Int) (hs : Sys.small s) (hw : w.length ≤ 1000) (hlg : longS s = false) (hb : s.length ≤ big) (h1 : sysErr s = 0) (hn : n < s.length) (h6 : s.length ≤ 6) (he : s.eraseIdx n = []) (h100 : ¬ 100 < w.length) :
    CallP Try.prog 5 [rulesV s, iv n, ints w] (bv true) := by
  refine CH5 (by simp) ?_
  have hm := Without_m s n hs h1 hn h6
  have hso := less_small (n := n) hs
  have hW := rWithout_c s n hs
  have hWe : WithoutL s n = (s.eraseIdx n, 0) := by
    unfold WithoutL
    rw [if_neg (by simp [h1]), if_neg]
    · rfl
    · simp only [Bool.and_eq_false_iff, decide_eq_false_iff_not]; omega
  rw [hWe] at hW
  have hsm := rSame_c (s.eraseIdx n) (s.eraseIdx n) hso
  have hss := rSame_c s s hs
  have hR1 := Reach_c s w hs hw
  have hR2 := Reach_c (s.eraseIdx n) w hso hw
  have hp := part_c (ReachE (s.eraseIdx n) w).1 (ReachE s w).1 ReachE_small.1 ReachE_small.1 ReachE_small.2
  have hF := @without_law s w n h1
  have hlo := long3_c s hb
  rw [hlg] at hlo
  have hla := large3_c w
  generalize ReachE s w = R1 at *
  generalize ReachE (s.eraseIdx n) w = R2 at *
  obtain ⟨L1, E1⟩ := R1
  obtain ⟨L2, E2⟩ := R2
  dsimp only at hR1 hR2 hp hF
  rw [he] at hm hso hW hsm hR2
  simp only [namW, rowW, List.length_cons, List.length_nil] at hm
  simp [A5]
  refine CallX.pure (by simpa using hlo) (by simp) (by simp) ?_
  try simp 
  try simp [h100]
  repeat' (first
    | (refine CallX.pure (hla) (by simp) (by simp) ?_; try simp [h100])
    | (refine CallK.intro (hla) (by simp) (by simp) ?_; try simp [h100])
    | (refine CallG.intro (fun _ => hla) (by simp) (by simp) ?_; try simp [h100])
    | ((with_reducible refine PreK.intro ?_ ?_); (next => (first | omega | (intros; first | omega | (refine ⟨by omega, ?_⟩; repeat (first | assumption | constructor)) | assumption))); intro _; try simp [h100])
    | fail)
  refine CondK.ff ?_
  try simp 
  try simp 
  repeat' (first
    | (refine CallX.pure (rCopy_c s hs) (by simp) (by simp) ?_; try simp )
    | (refine CallK.intro (rCopy_c s hs) (by simp) (by simp) ?_; try simp )
    | (refine CallG.intro (fun _ => rCopy_c s hs) (by simp) (by simp) ?_; try simp )
    | ((with_reducible refine PreK.intro ?_ ?_); (next => (first | omega | (intros; first | omega | (refine ⟨by omega, ?_⟩; repeat (first | assumption | constructor)) | assumption))); intro _; try simp )
    | fail)
  refine CallX.mem 1000 (by simpa using hm) (by simp) (by simp) (by simp) ?_
  try simp 
  repeat (refine PreK.intro (by first | omega | (intros; first | omega | (refine ⟨by omega, ?_⟩; simp_all; done) | (simp_all; done) | (simp_all; omega))) fun _ => ?_; (try simp ))
  try simp 
  repeat' (first
    | (refine CallX.pure (hW) (by simp) (by simp) ?_; try simp )
    | (refine CallK.intro (hW) (by simp) (by simp) ?_; try simp )
    | (refine CallG.intro (fun _ => hW) (by simp) (by simp) ?_; try simp )
    | ((with_reducible refine PreK.intro ?_ ?_); (next => (first | omega | (intros; first | omega | (refine ⟨by omega, ?_⟩; repeat (first | assumption | constructor)) | assumption))); intro _; try simp )
    | fail)
  refine CallX.deep (by simpa using hsm) (by simp) (by simp) ?_
  try simp 
  repeat (refine PreK.intro (by first | omega | (intros; first | omega | (refine ⟨by omega, ?_⟩; simp_all; done) | (simp_all; done) | (simp_all; omega))) fun _ => ?_; (try simp ))
  refine CondK.ff ?_
  try simp 
  try simp 
  repeat' (first
    | (refine CallX.pure (hR1) (by simp) (by simp) ?_; try simp )
    | (refine CallK.intro (hR1) (by simp) (by simp) ?_; try simp )
    | (refine CallG.intro (fun _ => hR1) (by simp) (by simp) ?_; try simp )
    | ((with_reducible refine PreK.intro ?_ ?_); (next => (first | omega | (intros; first | omega | (refine ⟨by omega, ?_⟩; repeat (first | assumption | constructor)) | assumption))); intro _; try simp )
    | fail)
  refine ShiftK.start [8, 2, 9, 12, 13] (by simp) ?_
  try simp 
  repeat (refine PreK.intro (by first | omega | (intros; first | omega | (refine ⟨by omega, ?_⟩; simp_all; done) | (simp_all; done) | (simp_all; omega))) fun _ => ?_; (try simp ))
  try simp 
  repeat' (first
    | (refine CallX.pure (hR2) (by simp) (by simp) ?_; try simp )
    | (refine CallK.intro (hR2) (by simp) (by simp) ?_; try simp )
    | (refine CallG.intro (fun _ => hR2) (by simp) (by simp) ?_; try simp )
    | ((with_reducible refine PreK.intro ?_ ?_); (next => (first | omega | (intros; first | omega | (refine ⟨by omega, ?_⟩; repeat (first | assumption | constructor)) | assumption))); intro _; try simp )
    | fail)
  refine CallG.intro (r := bv true) (fun hh => by
    have q : E1 = 0 := by
      simp at hh
      exact hh.1
    rw [(hF q).2] at hp
    simpa using hp) (by simp) (by simp) ?_
  try simp 
  repeat (refine PreK.intro (by first | omega | (intros; first | omega | (refine ⟨by omega, ?_⟩; simp_all; done) | (simp_all; done) | (simp_all; omega))) fun _ => ?_; (try simp ))
  have hok : (!decide (E1 = 0) || decide (E2 = 0)) = true := by
    by_cases q : E1 = 0
    · simp [q, (hF q).1]
    · simp [q]
  refine ShiftK.stop [16] [0, 7, 8] (by simp) (by simp) ?_
  try simp [hok]
  repeat (refine PreK.intro (by first | omega | (intros; first | omega | (refine ⟨by omega, ?_⟩; simp_all; done) | (simp_all; done) | (simp_all; omega))) fun _ => ?_; (try simp [hok]))
  refine LoopK.by (ι := Nat × List (List Int)) (fun x => ⟨[(17, iv x.1), (16, bv true), (8, .sl 1007 1 0 0), (7, rulesV s), (0, rulesV s)], (1007, some ⟨4, namU 0 [], 1, true⟩) :: rowU 0 x.2⟩) (fun x => 0 - x.1)
    (fun x => x.1 ≤ 0 ∧ x.2.map (·.length) = ([] : List Rule).map (·.to.length)) (0, ([] : List Rule).map (·.to)) ⟨Nat.zero_le _, by simp⟩ (by simp [namU, rowU]) ?_
  intro ⟨i, tos⟩ Q' ⟨hi, hl⟩ hq he hr
  dsimp only at hi hl
  have hln := len_of hl
  have : tos = [] := List.eq_nil_of_length_eq_zero hln
  subst this
  have hi6 : i = 0 := by omega
  subst hi6
  · simp only [namU, rowU]
    try simp 
    repeat (refine PreK.intro (by first | omega | (intros; first | omega | (refine ⟨by omega, ?_⟩; simp_all; done) | (simp_all; done) | (simp_all; omega))) fun _ => ?_; (try simp ))
    refine CondK.ff ?_
    try simp 
    try simp 
    apply he
    try simp 
    repeat' (first
      | (refine CallX.pure (hss) (by simp) (by simp) ?_; try simp )
      | (refine CallK.intro (hss) (by simp) (by simp) ?_; try simp )
      | (refine CallG.intro (fun _ => hss) (by simp) (by simp) ?_; try simp )
      | (refine CallX.pure (known_c) (by simp) (by simp) ?_; try simp )
      | (refine CallK.intro (known_c) (by simp) (by simp) ?_; try simp )
      | (refine CallG.intro (fun _ => known_c) (by simp) (by simp) ?_; try simp )
      | ((with_reducible refine PreK.intro ?_ ?_); (next => (first | omega | (intros; first | omega | (refine ⟨by omega, ?_⟩; repeat (first | assumption | constructor)) | assumption))); intro _; try simp )
      | fail)
theorem without_at1 (s : List Rule) (n : Nat) (w : List Int) (a : Rule) (hs : Sys.small s) (hw : w.length ≤ 1000) (hlg : longS s = false) (hb : s.length ≤ big) (h1 : sysErr s = 0) (hn : n < s.length) (h6 : s.length ≤ 6) (he : s.eraseIdx n = [a]) (h100 : ¬ 100 < w.length) :
    CallP Try.prog 5 [rulesV s, iv n, ints w] (bv true) := by
  refine CH5 (by simp) ?_
  have hm := Without_m s n hs h1 hn h6
  have hso := less_small (n := n) hs
  have hW := rWithout_c s n hs
  have hWe : WithoutL s n = (s.eraseIdx n, 0) := by
    unfold WithoutL
    rw [if_neg (by simp [h1]), if_neg]
    · rfl
    · simp only [Bool.and_eq_false_iff, decide_eq_false_iff_not]; omega
  rw [hWe] at hW
  have hsm := rSame_c (s.eraseIdx n) (s.eraseIdx n) hso
  have hss := rSame_c s s hs
  have hR1 := Reach_c s w hs hw
  have hR2 := Reach_c (s.eraseIdx n) w hso hw
  have hp := part_c (ReachE (s.eraseIdx n) w).1 (ReachE s w).1 ReachE_small.1 ReachE_small.1 ReachE_small.2
  have hF := @without_law s w n h1
  have hlo := long3_c s hb
  rw [hlg] at hlo
  have hla := large3_c w
  generalize ReachE s w = R1 at *
  generalize ReachE (s.eraseIdx n) w = R2 at *
  obtain ⟨L1, E1⟩ := R1
  obtain ⟨L2, E2⟩ := R2
  dsimp only at hR1 hR2 hp hF
  rw [he] at hm hso hW hsm hR2
  simp only [namW, rowW, List.length_cons, List.length_nil] at hm
  simp [A5]
  refine CallX.pure (by simpa using hlo) (by simp) (by simp) ?_
  try simp 
  try simp [h100]
  repeat' (first
    | (refine CallX.pure (hla) (by simp) (by simp) ?_; try simp [h100])
    | (refine CallK.intro (hla) (by simp) (by simp) ?_; try simp [h100])
    | (refine CallG.intro (fun _ => hla) (by simp) (by simp) ?_; try simp [h100])
    | ((with_reducible refine PreK.intro ?_ ?_); (next => (first | omega | (intros; first | omega | (refine ⟨by omega, ?_⟩; repeat (first | assumption | constructor)) | assumption))); intro _; try simp [h100])
    | fail)
  refine CondK.ff ?_
  try simp 
  try simp 
  repeat' (first
    | (refine CallX.pure (rCopy_c s hs) (by simp) (by simp) ?_; try simp )
    | (refine CallK.intro (rCopy_c s hs) (by simp) (by simp) ?_; try simp )
    | (refine CallG.intro (fun _ => rCopy_c s hs) (by simp) (by simp) ?_; try simp )
    | ((with_reducible refine PreK.intro ?_ ?_); (next => (first | omega | (intros; first | omega | (refine ⟨by omega, ?_⟩; repeat (first | assumption | constructor)) | assumption))); intro _; try simp )
    | fail)
  refine CallX.mem 1000 (by simpa using hm) (by simp) (by simp) (by simp) ?_
  try simp 
  repeat (refine PreK.intro (by first | omega | (intros; first | omega | (refine ⟨by omega, ?_⟩; simp_all; done) | (simp_all; done) | (simp_all; omega))) fun _ => ?_; (try simp ))
  try simp 
  repeat' (first
    | (refine CallX.pure (hW) (by simp) (by simp) ?_; try simp )
    | (refine CallK.intro (hW) (by simp) (by simp) ?_; try simp )
    | (refine CallG.intro (fun _ => hW) (by simp) (by simp) ?_; try simp )
    | ((with_reducible refine PreK.intro ?_ ?_); (next => (first | omega | (intros; first | omega | (refine ⟨by omega, ?_⟩; repeat (first | assumption | constructor)) | assumption))); intro _; try simp )
    | fail)
  refine CallX.deep (by simpa using hsm) (by simp) (by simp) ?_
  try simp 
  repeat (refine PreK.intro (by first | omega | (intros; first | omega | (refine ⟨by omega, ?_⟩; simp_all; done) | (simp_all; done) | (simp_all; omega))) fun _ => ?_; (try simp ))
  refine CondK.ff ?_
  try simp 
  try simp 
  repeat' (first
    | (refine CallX.pure (hR1) (by simp) (by simp) ?_; try simp )
    | (refine CallK.intro (hR1) (by simp) (by simp) ?_; try simp )
    | (refine CallG.intro (fun _ => hR1) (by simp) (by simp) ?_; try simp )
    | ((with_reducible refine PreK.intro ?_ ?_); (next => (first | omega | (intros; first | omega | (refine ⟨by omega, ?_⟩; repeat (first | assumption | constructor)) | assumption))); intro _; try simp )
    | fail)
  refine ShiftK.start [8, 2, 9, 12, 13] (by simp) ?_
  try simp 
  repeat (refine PreK.intro (by first | omega | (intros; first | omega | (refine ⟨by omega, ?_⟩; simp_all; done) | (simp_all; done) | (simp_all; omega))) fun _ => ?_; (try simp ))
  try simp 
  repeat' (first
    | (refine CallX.pure (hR2) (by simp) (by simp) ?_; try simp )
    | (refine CallK.intro (hR2) (by simp) (by simp) ?_; try simp )
    | (refine CallG.intro (fun _ => hR2) (by simp) (by simp) ?_; try simp )
    | ((with_reducible refine PreK.intro ?_ ?_); (next => (first | omega | (intros; first | omega | (refine ⟨by omega, ?_⟩; repeat (first | assumption | constructor)) | assumption))); intro _; try simp )
    | fail)
  refine CallG.intro (r := bv true) (fun hh => by
    have q : E1 = 0 := by
      simp at hh
      exact hh.1
    rw [(hF q).2] at hp
    simpa using hp) (by simp) (by simp) ?_
  try simp 
  repeat (refine PreK.intro (by first | omega | (intros; first | omega | (refine ⟨by omega, ?_⟩; simp_all; done) | (simp_all; done) | (simp_all; omega))) fun _ => ?_; (try simp ))
  have hok : (!decide (E1 = 0) || decide (E2 = 0)) = true := by
    by_cases q : E1 = 0
    · simp [q, (hF q).1]
    · simp [q]
  refine ShiftK.stop [16] [0, 7, 8] (by simp) (by simp) ?_
  try simp [hok]
  repeat (refine PreK.intro (by first | omega | (intros; first | omega | (refine ⟨by omega, ?_⟩; simp_all; done) | (simp_all; done) | (simp_all; omega))) fun _ => ?_; (try simp [hok]))
  refine LoopK.by (ι := Nat × List (List Int)) (fun x => ⟨[(17, iv x.1), (16, bv true), (8, .sl 1007 2 0 1), (7, rulesV s), (0, rulesV s)], (1007, some ⟨4, namU 0 [a], 2, true⟩) :: rowU 0 x.2⟩) (fun x => 1 - x.1)
    (fun x => x.1 ≤ 1 ∧ x.2.map (·.length) = ([a] : List Rule).map (·.to.length)) (0, ([a] : List Rule).map (·.to)) ⟨Nat.zero_le _, by simp⟩ (by simp [namU, rowU]) ?_
  intro ⟨i, tos⟩ Q' ⟨hi, hl⟩ hq he hr
  dsimp only at hi hl
  have hln := len_of hl
  have b0 := (hso.2 a (by simp)).1
  obtain ⟨u1, rfl⟩ : ∃ u1, tos = [u1] := by
    match tos, hln with
    | [u1], _ => exact ⟨u1, rfl⟩
  simp only [List.map_cons, List.map_nil, List.cons.injEq, and_true] at hl
  have lu1 := hl
  have hi6 : i = 0 ∨ i = 1 := by omega
  rcases hi6 with rfl | rfl
  · simp only [namU, rowU]
    try simp 
    repeat (refine PreK.intro (by first | omega | (intros; first | omega | (refine ⟨by omega, ?_⟩; simp_all; done) | (simp_all; done) | (simp_all; omega))) fun _ => ?_; (try simp ))
    refine CondK.tt ?_
    try simp 
    try simp 
    repeat (refine PreK.intro (by first | omega | (intros; first | omega | (refine ⟨by omega, ?_⟩; simp_all; done) | (simp_all; done) | (simp_all; omega))) fun _ => ?_; (try simp ))
    refine LoopK.by (ι := Nat × List Int) (fun y => ⟨[(18, iv y.1), (17, iv 0), (16, bv true), (8, .sl 1007 2 0 1), (7, rulesV s), (0, rulesV s)], [(1007, some ⟨4, namU 0 [a], 2, true⟩), (1100, some ⟨1, y.2.map iv, 1, false⟩)]⟩) (fun y => a.to.length - y.1)
      (fun y => y.1 ≤ a.to.length ∧ y.2.length = a.to.length) (0, u1) ⟨Nat.zero_le _, lu1⟩ (by simp [namU]) ?_
    intro ⟨j, y⟩ Q2 ⟨hj, hy⟩ hq2 he2 hr2
    dsimp only at hj hy
    simp only [namU]
    try simp 
    repeat (refine PreK.intro (by first | omega | (intros; first | omega | (refine ⟨by omega, ?_⟩; simp_all; done) | (simp_all; done) | (simp_all; omega))) fun _ => ?_; (try simp ))
    refine CondK.intro (fun h3 => ?_) (fun h3 => ?_)
    · simp at h3
      have hjy : j < y.length := by omega
      try simp [h3, hjy, hy]
      repeat (refine PreK.intro (by first | omega | (intros; first | omega | (refine ⟨by omega, ?_⟩; simp_all; done) | (simp_all; done) | (simp_all; omega))) fun _ => ?_; (try simp [h3, hjy, hy]))
      refine hq2 (j + 1, y.set j (-9)) _ ⟨by dsimp only; omega, by simpa using hy⟩ (by dsimp only; omega) ?_
      simp [List.map_set, namU]
    · simp at h3
      try simp 
      apply he2
      try simp 
      repeat (refine PreK.intro (by first | omega | (intros; first | omega | (refine ⟨by omega, ?_⟩; simp_all; done) | (simp_all; done) | (simp_all; omega))) fun _ => ?_; (try simp ))
      refine hq (1, [y]) _ ⟨by dsimp only; omega, by simp [hy]⟩ (by dsimp only; omega) ?_
      simp [namU, rowU]
  · simp only [namU, rowU]
    try simp 
    repeat (refine PreK.intro (by first | omega | (intros; first | omega | (refine ⟨by omega, ?_⟩; simp_all; done) | (simp_all; done) | (simp_all; omega))) fun _ => ?_; (try simp ))
    refine CondK.ff ?_
    try simp 
    try simp 
    apply he
    try simp 
    repeat' (first
      | (refine CallX.pure (hss) (by simp) (by simp) ?_; try simp )
      | (refine CallK.intro (hss) (by simp) (by simp) ?_; try simp )
      | (refine CallG.intro (fun _ => hss) (by simp) (by simp) ?_; try simp )
      | (refine CallX.pure (known_c) (by simp) (by simp) ?_; try simp )
      | (refine CallK.intro (known_c) (by simp) (by simp) ?_; try simp )
      | (refine CallG.intro (fun _ => known_c) (by simp) (by simp) ?_; try simp )
      | ((with_reducible refine PreK.intro ?_ ?_); (next => (first | omega | (intros; first | omega | (refine ⟨by omega, ?_⟩; repeat (first | assumption | constructor)) | assumption))); intro _; try simp )
      | fail)
theorem without_at2 (s : List Rule) (n : Nat) (w : List Int) (a b : Rule) (hs : Sys.small s) (hw : w.length ≤ 1000) (hlg : longS s = false) (hb : s.length ≤ big) (h1 : sysErr s = 0) (hn : n < s.length) (h6 : s.length ≤ 6) (he : s.eraseIdx n = [a, b]) (h100 : ¬ 100 < w.length) :
    CallP Try.prog 5 [rulesV s, iv n, ints w] (bv true) := by
  refine CH5 (by simp) ?_
  have hm := Without_m s n hs h1 hn h6
  have hso := less_small (n := n) hs
  have hW := rWithout_c s n hs
  have hWe : WithoutL s n = (s.eraseIdx n, 0) := by
    unfold WithoutL
    rw [if_neg (by simp [h1]), if_neg]
    · rfl
    · simp only [Bool.and_eq_false_iff, decide_eq_false_iff_not]; omega
  rw [hWe] at hW
  have hsm := rSame_c (s.eraseIdx n) (s.eraseIdx n) hso
  have hss := rSame_c s s hs
  have hR1 := Reach_c s w hs hw
  have hR2 := Reach_c (s.eraseIdx n) w hso hw
  have hp := part_c (ReachE (s.eraseIdx n) w).1 (ReachE s w).1 ReachE_small.1 ReachE_small.1 ReachE_small.2
  have hF := @without_law s w n h1
  have hlo := long3_c s hb
  rw [hlg] at hlo
  have hla := large3_c w
  generalize ReachE s w = R1 at *
  generalize ReachE (s.eraseIdx n) w = R2 at *
  obtain ⟨L1, E1⟩ := R1
  obtain ⟨L2, E2⟩ := R2
  dsimp only at hR1 hR2 hp hF
  rw [he] at hm hso hW hsm hR2
  simp only [namW, rowW, List.length_cons, List.length_nil] at hm
  simp [A5]
  refine CallX.pure (by simpa using hlo) (by simp) (by simp) ?_
  try simp 
  try simp [h100]
  repeat' (first
    | (refine CallX.pure (hla) (by simp) (by simp) ?_; try simp [h100])
    | (refine CallK.intro (hla) (by simp) (by simp) ?_; try simp [h100])
    | (refine CallG.intro (fun _ => hla) (by simp) (by simp) ?_; try simp [h100])
    | ((with_reducible refine PreK.intro ?_ ?_); (next => (first | omega | (intros; first | omega | (refine ⟨by omega, ?_⟩; repeat (first | assumption | constructor)) | assumption))); intro _; try simp [h100])
    | fail)
  refine CondK.ff ?_
  try simp 
  try simp 
  repeat' (first
    | (refine CallX.pure (rCopy_c s hs) (by simp) (by simp) ?_; try simp )
    | (refine CallK.intro (rCopy_c s hs) (by simp) (by simp) ?_; try simp )
    | (refine CallG.intro (fun _ => rCopy_c s hs) (by simp) (by simp) ?_; try simp )
    | ((with_reducible refine PreK.intro ?_ ?_); (next => (first | omega | (intros; first | omega | (refine ⟨by omega, ?_⟩; repeat (first | assumption | constructor)) | assumption))); intro _; try simp )
    | fail)
  refine CallX.mem 1000 (by simpa using hm) (by simp) (by simp) (by simp) ?_
  try simp 
  repeat (refine PreK.intro (by first | omega | (intros; first | omega | (refine ⟨by omega, ?_⟩; simp_all; done) | (simp_all; done) | (simp_all; omega))) fun _ => ?_; (try simp ))
  try simp 
  repeat' (first
    | (refine CallX.pure (hW) (by simp) (by simp) ?_; try simp )
    | (refine CallK.intro (hW) (by simp) (by simp) ?_; try simp )
    | (refine CallG.intro (fun _ => hW) (by simp) (by simp) ?_; try simp )
    | ((with_reducible refine PreK.intro ?_ ?_); (next => (first | omega | (intros; first | omega | (refine ⟨by omega, ?_⟩; repeat (first | assumption | constructor)) | assumption))); intro _; try simp )
    | fail)
  refine CallX.deep (by simpa using hsm) (by simp) (by simp) ?_
  try simp 
  repeat (refine PreK.intro (by first | omega | (intros; first | omega | (refine ⟨by omega, ?_⟩; simp_all; done) | (simp_all; done) | (simp_all; omega))) fun _ => ?_; (try simp ))
  refine CondK.ff ?_
  try simp 
  try simp 
  repeat' (first
    | (refine CallX.pure (hR1) (by simp) (by simp) ?_; try simp )
    | (refine CallK.intro (hR1) (by simp) (by simp) ?_; try simp )
    | (refine CallG.intro (fun _ => hR1) (by simp) (by simp) ?_; try simp )
    | ((with_reducible refine PreK.intro ?_ ?_); (next => (first | omega | (intros; first | omega | (refine ⟨by omega, ?_⟩; repeat (first | assumption | constructor)) | assumption))); intro _; try simp )
    | fail)
  refine ShiftK.start [8, 2, 9, 12, 13] (by simp) ?_
  try simp 
  repeat (refine PreK.intro (by first | omega | (intros; first | omega | (refine ⟨by omega, ?_⟩; simp_all; done) | (simp_all; done) | (simp_all; omega))) fun _ => ?_; (try simp ))
  try simp 
  repeat' (first
    | (refine CallX.pure (hR2) (by simp) (by simp) ?_; try simp )
    | (refine CallK.intro (hR2) (by simp) (by simp) ?_; try simp )
    | (refine CallG.intro (fun _ => hR2) (by simp) (by simp) ?_; try simp )
    | ((with_reducible refine PreK.intro ?_ ?_); (next => (first | omega | (intros; first | omega | (refine ⟨by omega, ?_⟩; repeat (first | assumption | constructor)) | assumption))); intro _; try simp )
    | fail)
  refine CallG.intro (r := bv true) (fun hh => by
    have q : E1 = 0 := by
      simp at hh
      exact hh.1
    rw [(hF q).2] at hp
    simpa using hp) (by simp) (by simp) ?_
  try simp 
  repeat (refine PreK.intro (by first | omega | (intros; first | omega | (refine ⟨by omega, ?_⟩; simp_all; done) | (simp_all; done) | (simp_all; omega))) fun _ => ?_; (try simp ))
  have hok : (!decide (E1 = 0) || decide (E2 = 0)) = true := by
    by_cases q : E1 = 0
    · simp [q, (hF q).1]
    · simp [q]
  refine ShiftK.stop [16] [0, 7, 8] (by simp) (by simp) ?_
  try simp [hok]
  repeat (refine PreK.intro (by first | omega | (intros; first | omega | (refine ⟨by omega, ?_⟩; simp_all; done) | (simp_all; done) | (simp_all; omega))) fun _ => ?_; (try simp [hok]))
  refine LoopK.by (ι := Nat × List (List Int)) (fun x => ⟨[(17, iv x.1), (16, bv true), (8, .sl 1007 3 0 2), (7, rulesV s), (0, rulesV s)], (1007, some ⟨4, namU 0 [a, b], 3, true⟩) :: rowU 0 x.2⟩) (fun x => 2 - x.1)
    (fun x => x.1 ≤ 2 ∧ x.2.map (·.length) = ([a, b] : List Rule).map (·.to.length)) (0, ([a, b] : List Rule).map (·.to)) ⟨Nat.zero_le _, by simp⟩ (by simp [namU, rowU]) ?_
  intro ⟨i, tos⟩ Q' ⟨hi, hl⟩ hq he hr
  dsimp only at hi hl
  have hln := len_of hl
  have b0 := (hso.2 a (by simp)).1
  have b1 := (hso.2 b (by simp)).1
  obtain ⟨u1, u2, rfl⟩ : ∃ u1 u2, tos = [u1, u2] := by
    match tos, hln with
    | [u1, u2], _ => exact ⟨u1, u2, rfl⟩
  simp only [List.map_cons, List.map_nil, List.cons.injEq, and_true] at hl
  obtain ⟨lu1, lu2⟩ := hl
  have hi6 : i = 0 ∨ i = 1 ∨ i = 2 := by omega
  rcases hi6 with rfl | rfl | rfl
  · simp only [namU, rowU]
    try simp 
    repeat (refine PreK.intro (by first | omega | (intros; first | omega | (refine ⟨by omega, ?_⟩; simp_all; done) | (simp_all; done) | (simp_all; omega))) fun _ => ?_; (try simp ))
    refine CondK.tt ?_
    try simp 
    try simp 
    repeat (refine PreK.intro (by first | omega | (intros; first | omega | (refine ⟨by omega, ?_⟩; simp_all; done) | (simp_all; done) | (simp_all; omega))) fun _ => ?_; (try simp ))
    refine LoopK.by (ι := Nat × List Int) (fun y => ⟨[(18, iv y.1), (17, iv 0), (16, bv true), (8, .sl 1007 3 0 2), (7, rulesV s), (0, rulesV s)], [(1007, some ⟨4, namU 0 [a, b], 3, true⟩), (1100, some ⟨1, y.2.map iv, 1, false⟩), (1101, some ⟨1, u2.map iv, 1, false⟩)]⟩) (fun y => a.to.length - y.1)
      (fun y => y.1 ≤ a.to.length ∧ y.2.length = a.to.length) (0, u1) ⟨Nat.zero_le _, lu1⟩ (by simp [namU]) ?_
    intro ⟨j, y⟩ Q2 ⟨hj, hy⟩ hq2 he2 hr2
    dsimp only at hj hy
    simp only [namU]
    try simp 
    repeat (refine PreK.intro (by first | omega | (intros; first | omega | (refine ⟨by omega, ?_⟩; simp_all; done) | (simp_all; done) | (simp_all; omega))) fun _ => ?_; (try simp ))
    refine CondK.intro (fun h3 => ?_) (fun h3 => ?_)
    · simp at h3
      have hjy : j < y.length := by omega
      try simp [h3, hjy, hy]
      repeat (refine PreK.intro (by first | omega | (intros; first | omega | (refine ⟨by omega, ?_⟩; simp_all; done) | (simp_all; done) | (simp_all; omega))) fun _ => ?_; (try simp [h3, hjy, hy]))
      refine hq2 (j + 1, y.set j (-9)) _ ⟨by dsimp only; omega, by simpa using hy⟩ (by dsimp only; omega) ?_
      simp [List.map_set, namU]
    · simp at h3
      try simp 
      apply he2
      try simp 
      repeat (refine PreK.intro (by first | omega | (intros; first | omega | (refine ⟨by omega, ?_⟩; simp_all; done) | (simp_all; done) | (simp_all; omega))) fun _ => ?_; (try simp ))
      refine hq (1, [y, u2]) _ ⟨by dsimp only; omega, by simp [hy, lu2]⟩ (by dsimp only; omega) ?_
      simp [namU, rowU]
  · simp only [namU, rowU]
    try simp 
    repeat (refine PreK.intro (by first | omega | (intros; first | omega | (refine ⟨by omega, ?_⟩; simp_all; done) | (simp_all; done) | (simp_all; omega))) fun _ => ?_; (try simp ))
    refine CondK.tt ?_
    try simp 
    try simp 
    repeat (refine PreK.intro (by first | omega | (intros; first | omega | (refine ⟨by omega, ?_⟩; simp_all; done) | (simp_all; done) | (simp_all; omega))) fun _ => ?_; (try simp ))
    refine LoopK.by (ι := Nat × List Int) (fun y => ⟨[(18, iv y.1), (17, iv 1), (16, bv true), (8, .sl 1007 3 0 2), (7, rulesV s), (0, rulesV s)], [(1007, some ⟨4, namU 0 [a, b], 3, true⟩), (1100, some ⟨1, u1.map iv, 1, false⟩), (1101, some ⟨1, y.2.map iv, 1, false⟩)]⟩) (fun y => b.to.length - y.1)
      (fun y => y.1 ≤ b.to.length ∧ y.2.length = b.to.length) (0, u2) ⟨Nat.zero_le _, lu2⟩ (by simp [namU]) ?_
    intro ⟨j, y⟩ Q2 ⟨hj, hy⟩ hq2 he2 hr2
    dsimp only at hj hy
    simp only [namU]
    try simp 
    repeat (refine PreK.intro (by first | omega | (intros; first | omega | (refine ⟨by omega, ?_⟩; simp_all; done) | (simp_all; done) | (simp_all; omega))) fun _ => ?_; (try simp ))
    refine CondK.intro (fun h3 => ?_) (fun h3 => ?_)
    · simp at h3
      have hjy : j < y.length := by omega
      try simp [h3, hjy, hy]
      repeat (refine PreK.intro (by first | omega | (intros; first | omega | (refine ⟨by omega, ?_⟩; simp_all; done) | (simp_all; done) | (simp_all; omega))) fun _ => ?_; (try simp [h3, hjy, hy]))
      refine hq2 (j + 1, y.set j (-9)) _ ⟨by dsimp only; omega, by simpa using hy⟩ (by dsimp only; omega) ?_
      simp [List.map_set, namU]
    · simp at h3
      try simp 
      apply he2
      try simp 
      repeat (refine PreK.intro (by first | omega | (intros; first | omega | (refine ⟨by omega, ?_⟩; simp_all; done) | (simp_all; done) | (simp_all; omega))) fun _ => ?_; (try simp ))
      refine hq (2, [u1, y]) _ ⟨by dsimp only; omega, by simp [lu1, hy]⟩ (by dsimp only; omega) ?_
      simp [namU, rowU]
  · simp only [namU, rowU]
    try simp 
    repeat (refine PreK.intro (by first | omega | (intros; first | omega | (refine ⟨by omega, ?_⟩; simp_all; done) | (simp_all; done) | (simp_all; omega))) fun _ => ?_; (try simp ))
    refine CondK.ff ?_
    try simp 
    try simp 
    apply he
    try simp 
    repeat' (first
      | (refine CallX.pure (hss) (by simp) (by simp) ?_; try simp )
      | (refine CallK.intro (hss) (by simp) (by simp) ?_; try simp )
      | (refine CallG.intro (fun _ => hss) (by simp) (by simp) ?_; try simp )
      | (refine CallX.pure (known_c) (by simp) (by simp) ?_; try simp )
      | (refine CallK.intro (known_c) (by simp) (by simp) ?_; try simp )
      | (refine CallG.intro (fun _ => known_c) (by simp) (by simp) ?_; try simp )
      | ((with_reducible refine PreK.intro ?_ ?_); (next => (first | omega | (intros; first | omega | (refine ⟨by omega, ?_⟩; repeat (first | assumption | constructor)) | assumption))); intro _; try simp )
      | fail)
theorem without_at3 (s : List Rule) (n : Nat) (w : List Int) (a b c : Rule) (hs : Sys.small s) (hw : w.length ≤ 1000) (hlg : longS s = false) (hb : s.length ≤ big) (h1 : sysErr s = 0) (hn : n < s.length) (h6 : s.length ≤ 6) (he : s.eraseIdx n = [a, b, c]) (h100 : ¬ 100 < w.length) :
    CallP Try.prog 5 [rulesV s, iv n, ints w] (bv true) := by
  refine CH5 (by simp) ?_
  have hm := Without_m s n hs h1 hn h6
  have hso := less_small (n := n) hs
  have hW := rWithout_c s n hs
  have hWe : WithoutL s n = (s.eraseIdx n, 0) := by
    unfold WithoutL
    rw [if_neg (by simp [h1]), if_neg]
    · rfl
    · simp only [Bool.and_eq_false_iff, decide_eq_false_iff_not]; omega
  rw [hWe] at hW
  have hsm := rSame_c (s.eraseIdx n) (s.eraseIdx n) hso
  have hss := rSame_c s s hs
  have hR1 := Reach_c s w hs hw
  have hR2 := Reach_c (s.eraseIdx n) w hso hw
  have hp := part_c (ReachE (s.eraseIdx n) w).1 (ReachE s w).1 ReachE_small.1 ReachE_small.1 ReachE_small.2
  have hF := @without_law s w n h1
  have hlo := long3_c s hb
  rw [hlg] at hlo
  have hla := large3_c w
  generalize ReachE s w = R1 at *
  generalize ReachE (s.eraseIdx n) w = R2 at *
  obtain ⟨L1, E1⟩ := R1
  obtain ⟨L2, E2⟩ := R2
  dsimp only at hR1 hR2 hp hF
  rw [he] at hm hso hW hsm hR2
  simp only [namW, rowW, List.length_cons, List.length_nil] at hm
  simp [A5]
  refine CallX.pure (by simpa using hlo) (by simp) (by simp) ?_
  try simp 
  try simp [h100]
  repeat' (first
    | (refine CallX.pure (hla) (by simp) (by simp) ?_; try simp [h100])
    | (refine CallK.intro (hla) (by simp) (by simp) ?_; try simp [h100])
    | (refine CallG.intro (fun _ => hla) (by simp) (by simp) ?_; try simp [h100])
    | ((with_reducible refine PreK.intro ?_ ?_); (next => (first | omega | (intros; first | omega | (refine ⟨by omega, ?_⟩; repeat (first | assumption | constructor)) | assumption))); intro _; try simp [h100])
    | fail)
  refine CondK.ff ?_
  try simp 
  try simp 
  repeat' (first
    | (refine CallX.pure (rCopy_c s hs) (by simp) (by simp) ?_; try simp )
    | (refine CallK.intro (rCopy_c s hs) (by simp) (by simp) ?_; try simp )
    | (refine CallG.intro (fun _ => rCopy_c s hs) (by simp) (by simp) ?_; try simp )
    | ((with_reducible refine PreK.intro ?_ ?_); (next => (first | omega | (intros; first | omega | (refine ⟨by omega, ?_⟩; repeat (first | assumption | constructor)) | assumption))); intro _; try simp )
    | fail)
  refine CallX.mem 1000 (by simpa using hm) (by simp) (by simp) (by simp) ?_
  try simp 
  repeat (refine PreK.intro (by first | omega | (intros; first | omega | (refine ⟨by omega, ?_⟩; simp_all; done) | (simp_all; done) | (simp_all; omega))) fun _ => ?_; (try simp ))
  try simp 
  repeat' (first
    | (refine CallX.pure (hW) (by simp) (by simp) ?_; try simp )
    | (refine CallK.intro (hW) (by simp) (by simp) ?_; try simp )
    | (refine CallG.intro (fun _ => hW) (by simp) (by simp) ?_; try simp )
    | ((with_reducible refine PreK.intro ?_ ?_); (next => (first | omega | (intros; first | omega | (refine ⟨by omega, ?_⟩; repeat (first | assumption | constructor)) | assumption))); intro _; try simp )
    | fail)
  refine CallX.deep (by simpa using hsm) (by simp) (by simp) ?_
  try simp 
  repeat (refine PreK.intro (by first | omega | (intros; first | omega | (refine ⟨by omega, ?_⟩; simp_all; done) | (simp_all; done) | (simp_all; omega))) fun _ => ?_; (try simp ))
  refine CondK.ff ?_
  try simp 
  try simp 
  repeat' (first
    | (refine CallX.pure (hR1) (by simp) (by simp) ?_; try simp )
    | (refine CallK.intro (hR1) (by simp) (by simp) ?_; try simp )
    | (refine CallG.intro (fun _ => hR1) (by simp) (by simp) ?_; try simp )
    | ((with_reducible refine PreK.intro ?_ ?_); (next => (first | omega | (intros; first | omega | (refine ⟨by omega, ?_⟩; repeat (first | assumption | constructor)) | assumption))); intro _; try simp )
    | fail)
  refine ShiftK.start [8, 2, 9, 12, 13] (by simp) ?_
  try simp 
  repeat (refine PreK.intro (by first | omega | (intros; first | omega | (refine ⟨by omega, ?_⟩; simp_all; done) | (simp_all; done) | (simp_all; omega))) fun _ => ?_; (try simp ))
  try simp 
  repeat' (first
    | (refine CallX.pure (hR2) (by simp) (by simp) ?_; try simp )
    | (refine CallK.intro (hR2) (by simp) (by simp) ?_; try simp )
    | (refine CallG.intro (fun _ => hR2) (by simp) (by simp) ?_; try simp )
    | ((with_reducible refine PreK.intro ?_ ?_); (next => (first | omega | (intros; first | omega | (refine ⟨by omega, ?_⟩; repeat (first | assumption | constructor)) | assumption))); intro _; try simp )
    | fail)
  refine CallG.intro (r := bv true) (fun hh => by
    have q : E1 = 0 := by
      simp at hh
      exact hh.1
    rw [(hF q).2] at hp
    simpa using hp) (by simp) (by simp) ?_
  try simp 
  repeat (refine PreK.intro (by first | omega | (intros; first | omega | (refine ⟨by omega, ?_⟩; simp_all; done) | (simp_all; done) | (simp_all; omega))) fun _ => ?_; (try simp ))
  have hok : (!decide (E1 = 0) || decide (E2 = 0)) = true := by
    by_cases q : E1 = 0
    · simp [q, (hF q).1]
    · simp [q]
  refine ShiftK.stop [16] [0, 7, 8] (by simp) (by simp) ?_
  try simp [hok]
  repeat (refine PreK.intro (by first | omega | (intros; first | omega | (refine ⟨by omega, ?_⟩; simp_all; done) | (simp_all; done) | (simp_all; omega))) fun _ => ?_; (try simp [hok]))
  refine LoopK.by (ι := Nat × List (List Int)) (fun x => ⟨[(17, iv x.1), (16, bv true), (8, .sl 1007 4 0 3), (7, rulesV s), (0, rulesV s)], (1007, some ⟨4, namU 0 [a, b, c], 4, true⟩) :: rowU 0 x.2⟩) (fun x => 3 - x.1)
    (fun x => x.1 ≤ 3 ∧ x.2.map (·.length) = ([a, b, c] : List Rule).map (·.to.length)) (0, ([a, b, c] : List Rule).map (·.to)) ⟨Nat.zero_le _, by simp⟩ (by simp [namU, rowU]) ?_
  intro ⟨i, tos⟩ Q' ⟨hi, hl⟩ hq he hr
  dsimp only at hi hl
  have hln := len_of hl
  have b0 := (hso.2 a (by simp)).1
  have b1 := (hso.2 b (by simp)).1
  have b2 := (hso.2 c (by simp)).1
  obtain ⟨u1, u2, u3, rfl⟩ : ∃ u1 u2 u3, tos = [u1, u2, u3] := by
    match tos, hln with
    | [u1, u2, u3], _ => exact ⟨u1, u2, u3, rfl⟩
  simp only [List.map_cons, List.map_nil, List.cons.injEq, and_true] at hl
  obtain ⟨lu1, lu2, lu3⟩ := hl
  have hi6 : i = 0 ∨ i = 1 ∨ i = 2 ∨ i = 3 := by omega
  rcases hi6 with rfl | rfl | rfl | rfl
  · simp only [namU, rowU]
    try simp 
    repeat (refine PreK.intro (by first | omega | (intros; first | omega | (refine ⟨by omega, ?_⟩; simp_all; done) | (simp_all; done) | (simp_all; omega))) fun _ => ?_; (try simp ))
    refine CondK.tt ?_
    try simp 
    try simp 
    repeat (refine PreK.intro (by first | omega | (intros; first | omega | (refine ⟨by omega, ?_⟩; simp_all; done) | (simp_all; done) | (simp_all; omega))) fun _ => ?_; (try simp ))
    refine LoopK.by (ι := Nat × List Int) (fun y => ⟨[(18, iv y.1), (17, iv 0), (16, bv true), (8, .sl 1007 4 0 3), (7, rulesV s), (0, rulesV s)], [(1007, some ⟨4, namU 0 [a, b, c], 4, true⟩), (1100, some ⟨1, y.2.map iv, 1, false⟩), (1101, some ⟨1, u2.map iv, 1, false⟩), (1102, some ⟨1, u3.map iv, 1, false⟩)]⟩) (fun y => a.to.length - y.1)
      (fun y => y.1 ≤ a.to.length ∧ y.2.length = a.to.length) (0, u1) ⟨Nat.zero_le _, lu1⟩ (by simp [namU]) ?_
    intro ⟨j, y⟩ Q2 ⟨hj, hy⟩ hq2 he2 hr2
    dsimp only at hj hy
    simp only [namU]
    try simp 
    repeat (refine PreK.intro (by first | omega | (intros; first | omega | (refine ⟨by omega, ?_⟩; simp_all; done) | (simp_all; done) | (simp_all; omega))) fun _ => ?_; (try simp ))
    refine CondK.intro (fun h3 => ?_) (fun h3 => ?_)
    · simp at h3
      have hjy : j < y.length := by omega
      try simp [h3, hjy, hy]
      repeat (refine PreK.intro (by first | omega | (intros; first | omega | (refine ⟨by omega, ?_⟩; simp_all; done) | (simp_all; done) | (simp_all; omega))) fun _ => ?_; (try simp [h3, hjy, hy]))
      refine hq2 (j + 1, y.set j (-9)) _ ⟨by dsimp only; omega, by simpa using hy⟩ (by dsimp only; omega) ?_
      simp [List.map_set, namU]
    · simp at h3
      try simp 
      apply he2
      try simp 
      repeat (refine PreK.intro (by first | omega | (intros; first | omega | (refine ⟨by omega, ?_⟩; simp_all; done) | (simp_all; done) | (simp_all; omega))) fun _ => ?_; (try simp ))
      refine hq (1, [y, u2, u3]) _ ⟨by dsimp only; omega, by simp [hy, lu2, lu3]⟩ (by dsimp only; omega) ?_
      simp [namU, rowU]
  · simp only [namU, rowU]
    try simp 
    repeat (refine PreK.intro (by first | omega | (intros; first | omega | (refine ⟨by omega, ?_⟩; simp_all; done) | (simp_all; done) | (simp_all; omega))) fun _ => ?_; (try simp ))
    refine CondK.tt ?_
    try simp 
    try simp 
    repeat (refine PreK.intro (by first | omega | (intros; first | omega | (refine ⟨by omega, ?_⟩; simp_all; done) | (simp_all; done) | (simp_all; omega))) fun _ => ?_; (try simp ))
    refine LoopK.by (ι := Nat × List Int) (fun y => ⟨[(18, iv y.1), (17, iv 1), (16, bv true), (8, .sl 1007 4 0 3), (7, rulesV s), (0, rulesV s)], [(1007, some ⟨4, namU 0 [a, b, c], 4, true⟩), (1100, some ⟨1, u1.map iv, 1, false⟩), (1101, some ⟨1, y.2.map iv, 1, false⟩), (1102, some ⟨1, u3.map iv, 1, false⟩)]⟩) (fun y => b.to.length - y.1)
      (fun y => y.1 ≤ b.to.length ∧ y.2.length = b.to.length) (0, u2) ⟨Nat.zero_le _, lu2⟩ (by simp [namU]) ?_
    intro ⟨j, y⟩ Q2 ⟨hj, hy⟩ hq2 he2 hr2
    dsimp only at hj hy
    simp only [namU]
    try simp 
    repeat (refine PreK.intro (by first | omega | (intros; first | omega | (refine ⟨by omega, ?_⟩; simp_all; done) | (simp_all; done) | (simp_all; omega))) fun _ => ?_; (try simp ))
    refine CondK.intro (fun h3 => ?_) (fun h3 => ?_)
    · simp at h3
      have hjy : j < y.length := by omega
      try simp [h3, hjy, hy]
      repeat (refine PreK.intro (by first | omega | (intros; first | omega | (refine ⟨by omega, ?_⟩; simp_all; done) | (simp_all; done) | (simp_all; omega))) fun _ => ?_; (try simp [h3, hjy, hy]))
      refine hq2 (j + 1, y.set j (-9)) _ ⟨by dsimp only; omega, by simpa using hy⟩ (by dsimp only; omega) ?_
      simp [List.map_set, namU]
    · simp at h3
      try simp 
      apply he2
      try simp 
      repeat (refine PreK.intro (by first | omega | (intros; first | omega | (refine ⟨by omega, ?_⟩; simp_all; done) | (simp_all; done) | (simp_all; omega))) fun _ => ?_; (try simp ))
      refine hq (2, [u1, y, u3]) _ ⟨by dsimp only; omega, by simp [lu1, hy, lu3]⟩ (by dsimp only; omega) ?_
      simp [namU, rowU]
  · simp only [namU, rowU]
    try simp 
    repeat (refine PreK.intro (by first | omega | (intros; first | omega | (refine ⟨by omega, ?_⟩; simp_all; done) | (simp_all; done) | (simp_all; omega))) fun _ => ?_; (try simp ))
    refine CondK.tt ?_
    try simp 
    try simp 
    repeat (refine PreK.intro (by first | omega | (intros; first | omega | (refine ⟨by omega, ?_⟩; simp_all; done) | (simp_all; done) | (simp_all; omega))) fun _ => ?_; (try simp ))
    refine LoopK.by (ι := Nat × List Int) (fun y => ⟨[(18, iv y.1), (17, iv 2), (16, bv true), (8, .sl 1007 4 0 3), (7, rulesV s), (0, rulesV s)], [(1007, some ⟨4, namU 0 [a, b, c], 4, true⟩), (1100, some ⟨1, u1.map iv, 1, false⟩), (1101, some ⟨1, u2.map iv, 1, false⟩), (1102, some ⟨1, y.2.map iv, 1, false⟩)]⟩) (fun y => c.to.length - y.1)
      (fun y => y.1 ≤ c.to.length ∧ y.2.length = c.to.length) (0, u3) ⟨Nat.zero_le _, lu3⟩ (by simp [namU]) ?_
    intro ⟨j, y⟩ Q2 ⟨hj, hy⟩ hq2 he2 hr2
    dsimp only at hj hy
    simp only [namU]
    try simp 
    repeat (refine PreK.intro (by first | omega | (intros; first | omega | (refine ⟨by omega, ?_⟩; simp_all; done) | (simp_all; done) | (simp_all; omega))) fun _ => ?_; (try simp ))
    refine CondK.intro (fun h3 => ?_) (fun h3 => ?_)
    · simp at h3
      have hjy : j < y.length := by omega
      try simp [h3, hjy, hy]
      repeat (refine PreK.intro (by first | omega | (intros; first | omega | (refine ⟨by omega, ?_⟩; simp_all; done) | (simp_all; done) | (simp_all; omega))) fun _ => ?_; (try simp [h3, hjy, hy]))
      refine hq2 (j + 1, y.set j (-9)) _ ⟨by dsimp only; omega, by simpa using hy⟩ (by dsimp only; omega) ?_
      simp [List.map_set, namU]
    · simp at h3
      try simp 
      apply he2
      try simp 
      repeat (refine PreK.intro (by first | omega | (intros; first | omega | (refine ⟨by omega, ?_⟩; simp_all; done) | (simp_all; done) | (simp_all; omega))) fun _ => ?_; (try simp ))
      refine hq (3, [u1, u2, y]) _ ⟨by dsimp only; omega, by simp [lu1, lu2, hy]⟩ (by dsimp only; omega) ?_
      simp [namU, rowU]
  · simp only [namU, rowU]
    try simp 
    repeat (refine PreK.intro (by first | omega | (intros; first | omega | (refine ⟨by omega, ?_⟩; simp_all; done) | (simp_all; done) | (simp_all; omega))) fun _ => ?_; (try simp ))
    refine CondK.ff ?_
    try simp 
    try simp 
    apply he
    try simp 
    repeat' (first
      | (refine CallX.pure (hss) (by simp) (by simp) ?_; try simp )
      | (refine CallK.intro (hss) (by simp) (by simp) ?_; try simp )
      | (refine CallG.intro (fun _ => hss) (by simp) (by simp) ?_; try simp )
      | (refine CallX.pure (known_c) (by simp) (by simp) ?_; try simp )
      | (refine CallK.intro (known_c) (by simp) (by simp) ?_; try simp )
      | (refine CallG.intro (fun _ => known_c) (by simp) (by simp) ?_; try simp )
      | ((with_reducible refine PreK.intro ?_ ?_); (next => (first | omega | (intros; first | omega | (refine ⟨by omega, ?_⟩; repeat (first | assumption | constructor)) | assumption))); intro _; try simp )
      | fail)
theorem without_at4 (s : List Rule) (n : Nat) (w : List Int) (a b c d : Rule) (hs : Sys.small s) (hw : w.length ≤ 1000) (hlg : longS s = false) (hb : s.length ≤ big) (h1 : sysErr s = 0) (hn : n < s.length) (h6 : s.length ≤ 6) (he : s.eraseIdx n = [a, b, c, d]) (h100 : ¬ 100 < w.length) :
    CallP Try.prog 5 [rulesV s, iv n, ints w] (bv true) := by
  refine CH5 (by simp) ?_
  have hm := Without_m s n hs h1 hn h6
  have hso := less_small (n := n) hs
  have hW := rWithout_c s n hs
  have hWe : WithoutL s n = (s.eraseIdx n, 0) := by
    unfold WithoutL
    rw [if_neg (by simp [h1]), if_neg]
    · rfl
    · simp only [Bool.and_eq_false_iff, decide_eq_false_iff_not]; omega
  rw [hWe] at hW
  have hsm := rSame_c (s.eraseIdx n) (s.eraseIdx n) hso
  have hss := rSame_c s s hs
  have hR1 := Reach_c s w hs hw
  have hR2 := Reach_c (s.eraseIdx n) w hso hw
  have hp := part_c (ReachE (s.eraseIdx n) w).1 (ReachE s w).1 ReachE_small.1 ReachE_small.1 ReachE_small.2
  have hF := @without_law s w n h1
  have hlo := long3_c s hb
  rw [hlg] at hlo
  have hla := large3_c w
  generalize ReachE s w = R1 at *
  generalize ReachE (s.eraseIdx n) w = R2 at *
  obtain ⟨L1, E1⟩ := R1
  obtain ⟨L2, E2⟩ := R2
  dsimp only at hR1 hR2 hp hF
  rw [he] at hm hso hW hsm hR2
  simp only [namW, rowW, List.length_cons, List.length_nil] at hm
  simp [A5]
  refine CallX.pure (by simpa using hlo) (by simp) (by simp) ?_
  try simp 
  try simp [h100]
  repeat' (first
    | (refine CallX.pure (hla) (by simp) (by simp) ?_; try simp [h100])
    | (refine CallK.intro (hla) (by simp) (by simp) ?_; try simp [h100])
    | (refine CallG.intro (fun _ => hla) (by simp) (by simp) ?_; try simp [h100])
    | ((with_reducible refine PreK.intro ?_ ?_); (next => (first | omega | (intros; first | omega | (refine ⟨by omega, ?_⟩; repeat (first | assumption | constructor)) | assumption))); intro _; try simp [h100])
    | fail)
  refine CondK.ff ?_
  try simp 
  try simp 
  repeat' (first
    | (refine CallX.pure (rCopy_c s hs) (by simp) (by simp) ?_; try simp )
    | (refine CallK.intro (rCopy_c s hs) (by simp) (by simp) ?_; try simp )
    | (refine CallG.intro (fun _ => rCopy_c s hs) (by simp) (by simp) ?_; try simp )
    | ((with_reducible refine PreK.intro ?_ ?_); (next => (first | omega | (intros; first | omega | (refine ⟨by omega, ?_⟩; repeat (first | assumption | constructor)) | assumption))); intro _; try simp )
    | fail)
  refine CallX.mem 1000 (by simpa using hm) (by simp) (by simp) (by simp) ?_
  try simp 
  repeat (refine PreK.intro (by first | omega | (intros; first | omega | (refine ⟨by omega, ?_⟩; simp_all; done) | (simp_all; done) | (simp_all; omega))) fun _ => ?_; (try simp ))
  try simp 
  repeat' (first
    | (refine CallX.pure (hW) (by simp) (by simp) ?_; try simp )
    | (refine CallK.intro (hW) (by simp) (by simp) ?_; try simp )
    | (refine CallG.intro (fun _ => hW) (by simp) (by simp) ?_; try simp )
    | ((with_reducible refine PreK.intro ?_ ?_); (next => (first | omega | (intros; first | omega | (refine ⟨by omega, ?_⟩; repeat (first | assumption | constructor)) | assumption))); intro _; try simp )
    | fail)
  refine CallX.deep (by simpa using hsm) (by simp) (by simp) ?_
  try simp 
  repeat (refine PreK.intro (by first | omega | (intros; first | omega | (refine ⟨by omega, ?_⟩; simp_all; done) | (simp_all; done) | (simp_all; omega))) fun _ => ?_; (try simp ))
  refine CondK.ff ?_
  try simp 
  try simp 
  repeat' (first
    | (refine CallX.pure (hR1) (by simp) (by simp) ?_; try simp )
    | (refine CallK.intro (hR1) (by simp) (by simp) ?_; try simp )
    | (refine CallG.intro (fun _ => hR1) (by simp) (by simp) ?_; try simp )
    | ((with_reducible refine PreK.intro ?_ ?_); (next => (first | omega | (intros; first | omega | (refine ⟨by omega, ?_⟩; repeat (first | assumption | constructor)) | assumption))); intro _; try simp )
    | fail)
  refine ShiftK.start [8, 2, 9, 12, 13] (by simp) ?_
  try simp 
  repeat (refine PreK.intro (by first | omega | (intros; first | omega | (refine ⟨by omega, ?_⟩; simp_all; done) | (simp_all; done) | (simp_all; omega))) fun _ => ?_; (try simp ))
  try simp 
  repeat' (first
    | (refine CallX.pure (hR2) (by simp) (by simp) ?_; try simp )
    | (refine CallK.intro (hR2) (by simp) (by simp) ?_; try simp )
    | (refine CallG.intro (fun _ => hR2) (by simp) (by simp) ?_; try simp )
    | ((with_reducible refine PreK.intro ?_ ?_); (next => (first | omega | (intros; first | omega | (refine ⟨by omega, ?_⟩; repeat (first | assumption | constructor)) | assumption))); intro _; try simp )
    | fail)
  refine CallG.intro (r := bv true) (fun hh => by
    have q : E1 = 0 := by
      simp at hh
      exact hh.1
    rw [(hF q).2] at hp
    simpa using hp) (by simp) (by simp) ?_
  try simp 
  repeat (refine PreK.intro (by first | omega | (intros; first | omega | (refine ⟨by omega, ?_⟩; simp_all; done) | (simp_all; done) | (simp_all; omega))) fun _ => ?_; (try simp ))
  have hok : (!decide (E1 = 0) || decide (E2 = 0)) = true := by
    by_cases q : E1 = 0
    · simp [q, (hF q).1]
    · simp [q]
  refine ShiftK.stop [16] [0, 7, 8] (by simp) (by simp) ?_
  try simp [hok]
  repeat (refine PreK.intro (by first | omega | (intros; first | omega | (refine ⟨by omega, ?_⟩; simp_all; done) | (simp_all; done) | (simp_all; omega))) fun _ => ?_; (try simp [hok]))
  refine LoopK.by (ι := Nat × List (List Int)) (fun x => ⟨[(17, iv x.1), (16, bv true), (8, .sl 1007 5 0 4), (7, rulesV s), (0, rulesV s)], (1007, some ⟨4, namU 0 [a, b, c, d], 5, true⟩) :: rowU 0 x.2⟩) (fun x => 4 - x.1)
    (fun x => x.1 ≤ 4 ∧ x.2.map (·.length) = ([a, b, c, d] : List Rule).map (·.to.length)) (0, ([a, b, c, d] : List Rule).map (·.to)) ⟨Nat.zero_le _, by simp⟩ (by simp [namU, rowU]) ?_
  intro ⟨i, tos⟩ Q' ⟨hi, hl⟩ hq he hr
  dsimp only at hi hl
  have hln := len_of hl
  have b0 := (hso.2 a (by simp)).1
  have b1 := (hso.2 b (by simp)).1
  have b2 := (hso.2 c (by simp)).1
  have b3 := (hso.2 d (by simp)).1
  obtain ⟨u1, u2, u3, u4, rfl⟩ : ∃ u1 u2 u3 u4, tos = [u1, u2, u3, u4] := by
    match tos, hln with
    | [u1, u2, u3, u4], _ => exact ⟨u1, u2, u3, u4, rfl⟩
  simp only [List.map_cons, List.map_nil, List.cons.injEq, and_true] at hl
  obtain ⟨lu1, lu2, lu3, lu4⟩ := hl
  have hi6 : i = 0 ∨ i = 1 ∨ i = 2 ∨ i = 3 ∨ i = 4 := by omega
  rcases hi6 with rfl | rfl | rfl | rfl | rfl
  · simp only [namU, rowU]
    try simp 
    repeat (refine PreK.intro (by first | omega | (intros; first | omega | (refine ⟨by omega, ?_⟩; simp_all; done) | (simp_all; done) | (simp_all; omega))) fun _ => ?_; (try simp ))
    refine CondK.tt ?_
    try simp 
    try simp 
    repeat (refine PreK.intro (by first | omega | (intros; first | omega | (refine ⟨by omega, ?_⟩; simp_all; done) | (simp_all; done) | (simp_all; omega))) fun _ => ?_; (try simp ))
    refine LoopK.by (ι := Nat × List Int) (fun y => ⟨[(18, iv y.1), (17, iv 0), (16, bv true), (8, .sl 1007 5 0 4), (7, rulesV s), (0, rulesV s)], [(1007, some ⟨4, namU 0 [a, b, c, d], 5, true⟩), (1100, some ⟨1, y.2.map iv, 1, false⟩), (1101, some ⟨1, u2.map iv, 1, false⟩), (1102, some ⟨1, u3.map iv, 1, false⟩), (1103, some ⟨1, u4.map iv, 1, false⟩)]⟩) (fun y => a.to.length - y.1)
      (fun y => y.1 ≤ a.to.length ∧ y.2.length = a.to.length) (0, u1) ⟨Nat.zero_le _, lu1⟩ (by simp [namU]) ?_
    intro ⟨j, y⟩ Q2 ⟨hj, hy⟩ hq2 he2 hr2
    dsimp only at hj hy
    simp only [namU]
    try simp 
    repeat (refine PreK.intro (by first | omega | (intros; first | omega | (refine ⟨by omega, ?_⟩; simp_all; done) | (simp_all; done) | (simp_all; omega))) fun _ => ?_; (try simp ))
    refine CondK.intro (fun h3 => ?_) (fun h3 => ?_)
    · simp at h3
      have hjy : j < y.length := by omega
      try simp [h3, hjy, hy]
      repeat (refine PreK.intro (by first | omega | (intros; first | omega | (refine ⟨by omega, ?_⟩; simp_all; done) | (simp_all; done) | (simp_all; omega))) fun _ => ?_; (try simp [h3, hjy, hy]))
      refine hq2 (j + 1, y.set j (-9)) _ ⟨by dsimp only; omega, by simpa using hy⟩ (by dsimp only; omega) ?_
      simp [List.map_set, namU]
    · simp at h3
      try simp 
      apply he2
      try simp 
      repeat (refine PreK.intro (by first | omega | (intros; first | omega | (refine ⟨by omega, ?_⟩; simp_all; done) | (simp_all; done) | (simp_all; omega))) fun _ => ?_; (try simp ))
      refine hq (1, [y, u2, u3, u4]) _ ⟨by dsimp only; omega, by simp [hy, lu2, lu3, lu4]⟩ (by dsimp only; omega) ?_
      simp [namU, rowU]
  · simp only [namU, rowU]
    try simp 
    repeat (refine PreK.intro (by first | omega | (intros; first | omega | (refine ⟨by omega, ?_⟩; simp_all; done) | (simp_all; done) | (simp_all; omega))) fun _ => ?_; (try simp ))
    refine CondK.tt ?_
    try simp 
    try simp 
    repeat (refine PreK.intro (by first | omega | (intros; first | omega | (refine ⟨by omega, ?_⟩; simp_all; done) | (simp_all; done) | (simp_all; omega))) fun _ => ?_; (try simp ))
    refine LoopK.by (ι := Nat × List Int) (fun y => ⟨[(18, iv y.1), (17, iv 1), (16, bv true), (8, .sl 1007 5 0 4), (7, rulesV s), (0, rulesV s)], [(1007, some ⟨4, namU 0 [a, b, c, d], 5, true⟩), (1100, some ⟨1, u1.map iv, 1, false⟩), (1101, some ⟨1, y.2.map iv, 1, false⟩), (1102, some ⟨1, u3.map iv, 1, false⟩), (1103, some ⟨1, u4.map iv, 1, false⟩)]⟩) (fun y => b.to.length - y.1)
      (fun y => y.1 ≤ b.to.length ∧ y.2.length = b.to.length) (0, u2) ⟨Nat.zero_le _, lu2⟩ (by simp [namU]) ?_
    intro ⟨j, y⟩ Q2 ⟨hj, hy⟩ hq2 he2 hr2
    dsimp only at hj hy
    simp only [namU]
    try simp 
    repeat (refine PreK.intro (by first | omega | (intros; first | omega | (refine ⟨by omega, ?_⟩; simp_all; done) | (simp_all; done) | (simp_all; omega))) fun _ => ?_; (try simp ))
    refine CondK.intro (fun h3 => ?_) (fun h3 => ?_)
    · simp at h3
      have hjy : j < y.length := by omega
      try simp [h3, hjy, hy]
      repeat (refine PreK.intro (by first | omega | (intros; first | omega | (refine ⟨by omega, ?_⟩; simp_all; done) | (simp_all; done) | (simp_all; omega))) fun _ => ?_; (try simp [h3, hjy, hy]))
      refine hq2 (j + 1, y.set j (-9)) _ ⟨by dsimp only; omega, by simpa using hy⟩ (by dsimp only; omega) ?_
      simp [List.map_set, namU]
    · simp at h3
      try simp 
      apply he2
      try simp 
      repeat (refine PreK.intro (by first | omega | (intros; first | omega | (refine ⟨by omega, ?_⟩; simp_all; done) | (simp_all; done) | (simp_all; omega))) fun _ => ?_; (try simp ))
      refine hq (2, [u1, y, u3, u4]) _ ⟨by dsimp only; omega, by simp [lu1, hy, lu3, lu4]⟩ (by dsimp only; omega) ?_
      simp [namU, rowU]
  · simp only [namU, rowU]
    try simp 
    repeat (refine PreK.intro (by first | omega | (intros; first | omega | (refine ⟨by omega, ?_⟩; simp_all; done) | (simp_all; done) | (simp_all; omega))) fun _ => ?_; (try simp ))
    refine CondK.tt ?_
    try simp 
    try simp 
    repeat (refine PreK.intro (by first | omega | (intros; first | omega | (refine ⟨by omega, ?_⟩; simp_all; done) | (simp_all; done) | (simp_all; omega))) fun _ => ?_; (try simp ))
    refine LoopK.by (ι := Nat × List Int) (fun y => ⟨[(18, iv y.1), (17, iv 2), (16, bv true), (8, .sl 1007 5 0 4), (7, rulesV s), (0, rulesV s)], [(1007, some ⟨4, namU 0 [a, b, c, d], 5, true⟩), (1100, some ⟨1, u1.map iv, 1, false⟩), (1101, some ⟨1, u2.map iv, 1, false⟩), (1102, some ⟨1, y.2.map iv, 1, false⟩), (1103, some ⟨1, u4.map iv, 1, false⟩)]⟩) (fun y => c.to.length - y.1)
      (fun y => y.1 ≤ c.to.length ∧ y.2.length = c.to.length) (0, u3) ⟨Nat.zero_le _, lu3⟩ (by simp [namU]) ?_
    intro ⟨j, y⟩ Q2 ⟨hj, hy⟩ hq2 he2 hr2
    dsimp only at hj hy
    simp only [namU]
    try simp 
    repeat (refine PreK.intro (by first | omega | (intros; first | omega | (refine ⟨by omega, ?_⟩; simp_all; done) | (simp_all; done) | (simp_all; omega))) fun _ => ?_; (try simp ))
    refine CondK.intro (fun h3 => ?_) (fun h3 => ?_)
    · simp at h3
      have hjy : j < y.length := by omega
      try simp [h3, hjy, hy]
      repeat (refine PreK.intro (by first | omega | (intros; first | omega | (refine ⟨by omega, ?_⟩; simp_all; done) | (simp_all; done) | (simp_all; omega))) fun _ => ?_; (try simp [h3, hjy, hy]))
      refine hq2 (j + 1, y.set j (-9)) _ ⟨by dsimp only; omega, by simpa using hy⟩ (by dsimp only; omega) ?_
      simp [List.map_set, namU]
    · simp at h3
      try simp 
      apply he2
      try simp 
      repeat (refine PreK.intro (by first | omega | (intros; first | omega | (refine ⟨by omega, ?_⟩; simp_all; done) | (simp_all; done) | (simp_all; omega))) fun _ => ?_; (try simp ))
      refine hq (3, [u1, u2, y, u4]) _ ⟨by dsimp only; omega, by simp [lu1, lu2, hy, lu4]⟩ (by dsimp only; omega) ?_
      simp [namU, rowU]
  · simp only [namU, rowU]
    try simp 
    repeat (refine PreK.intro (by first | omega | (intros; first | omega | (refine ⟨by omega, ?_⟩; simp_all; done) | (simp_all; done) | (simp_all; omega))) fun _ => ?_; (try simp ))
    refine CondK.tt ?_
    try simp 
    try simp 
    repeat (refine PreK.intro (by first | omega | (intros; first | omega | (refine ⟨by omega, ?_⟩; simp_all; done) | (simp_all; done) | (simp_all; omega))) fun _ => ?_; (try simp ))
    refine LoopK.by (ι := Nat × List Int) (fun y => ⟨[(18, iv y.1), (17, iv 3), (16, bv true), (8, .sl 1007 5 0 4), (7, rulesV s), (0, rulesV s)], [(1007, some ⟨4, namU 0 [a, b, c, d], 5, true⟩), (1100, some ⟨1, u1.map iv, 1, false⟩), (1101, some ⟨1, u2.map iv, 1, false⟩), (1102, some ⟨1, u3.map iv, 1, false⟩), (1103, some ⟨1, y.2.map iv, 1, false⟩)]⟩) (fun y => d.to.length - y.1)
      (fun y => y.1 ≤ d.to.length ∧ y.2.length = d.to.length) (0, u4) ⟨Nat.zero_le _, lu4⟩ (by simp [namU]) ?_
    intro ⟨j, y⟩ Q2 ⟨hj, hy⟩ hq2 he2 hr2
    dsimp only at hj hy
    simp only [namU]
    try simp 
    repeat (refine PreK.intro (by first | omega | (intros; first | omega | (refine ⟨by omega, ?_⟩; simp_all; done) | (simp_all; done) | (simp_all; omega))) fun _ => ?_; (try simp ))
    refine CondK.intro (fun h3 => ?_) (fun h3 => ?_)
    · simp at h3
      have hjy : j < y.length := by omega
      try simp [h3, hjy, hy]
      repeat (refine PreK.intro (by first | omega | (intros; first | omega | (refine ⟨by omega, ?_⟩; simp_all; done) | (simp_all; done) | (simp_all; omega))) fun _ => ?_; (try simp [h3, hjy, hy]))
      refine hq2 (j + 1, y.set j (-9)) _ ⟨by dsimp only; omega, by simpa using hy⟩ (by dsimp only; omega) ?_
      simp [List.map_set, namU]
    · simp at h3
      try simp 
      apply he2
      try simp 
      repeat (refine PreK.intro (by first | omega | (intros; first | omega | (refine ⟨by omega, ?_⟩; simp_all; done) | (simp_all; done) | (simp_all; omega))) fun _ => ?_; (try simp ))
      refine hq (4, [u1, u2, u3, y]) _ ⟨by dsimp only; omega, by simp [lu1, lu2, lu3, hy]⟩ (by dsimp only; omega) ?_
      simp [namU, rowU]
  · simp only [namU, rowU]
    try simp 
    repeat (refine PreK.intro (by first | omega | (intros; first | omega | (refine ⟨by omega, ?_⟩; simp_all; done) | (simp_all; done) | (simp_all; omega))) fun _ => ?_; (try simp ))
    refine CondK.ff ?_
    try simp 
    try simp 
    apply he
    try simp 
    repeat' (first
      | (refine CallX.pure (hss) (by simp) (by simp) ?_; try simp )
      | (refine CallK.intro (hss) (by simp) (by simp) ?_; try simp )
      | (refine CallG.intro (fun _ => hss) (by simp) (by simp) ?_; try simp )
      | (refine CallX.pure (known_c) (by simp) (by simp) ?_; try simp )
      | (refine CallK.intro (known_c) (by simp) (by simp) ?_; try simp )
      | (refine CallG.intro (fun _ => known_c) (by simp) (by simp) ?_; try simp )
      | ((with_reducible refine PreK.intro ?_ ?_); (next => (first | omega | (intros; first | omega | (refine ⟨by omega, ?_⟩; repeat (first | assumption | constructor)) | assumption))); intro _; try simp )
      | fail)
theorem without_at5 (s : List Rule) (n : Nat) (w : List Int) (a b c d e : Rule) (hs : Sys.small s) (hw : w.length ≤ 1000) (hlg : longS s = false) (hb : s.length ≤ big) (h1 : sysErr s = 0) (hn : n < s.length) (h6 : s.length ≤ 6) (he : s.eraseIdx n = [a, b, c, d, e]) (h100 : ¬ 100 < w.length) :
    CallP Try.prog 5 [rulesV s, iv n, ints w] (bv true) := by
  refine CH5 (by simp) ?_
  have hm := Without_m s n hs h1 hn h6
  have hso := less_small (n := n) hs
  have hW := rWithout_c s n hs
  have hWe : WithoutL s n = (s.eraseIdx n, 0) := by
    unfold WithoutL
    rw [if_neg (by simp [h1]), if_neg]
    · rfl
    · simp only [Bool.and_eq_false_iff, decide_eq_false_iff_not]; omega
  rw [hWe] at hW
  have hsm := rSame_c (s.eraseIdx n) (s.eraseIdx n) hso
  have hss := rSame_c s s hs
  have hR1 := Reach_c s w hs hw
  have hR2 := Reach_c (s.eraseIdx n) w hso hw
  have hp := part_c (ReachE (s.eraseIdx n) w).1 (ReachE s w).1 ReachE_small.1 ReachE_small.1 ReachE_small.2
  have hF := @without_law s w n h1
  have hlo := long3_c s hb
  rw [hlg] at hlo
  have hla := large3_c w
  generalize ReachE s w = R1 at *
  generalize ReachE (s.eraseIdx n) w = R2 at *
  obtain ⟨L1, E1⟩ := R1
  obtain ⟨L2, E2⟩ := R2
  dsimp only at hR1 hR2 hp hF
  rw [he] at hm hso hW hsm hR2
  simp only [namW, rowW, List.length_cons, List.length_nil] at hm
  simp [A5]
  refine CallX.pure (by simpa using hlo) (by simp) (by simp) ?_
  try simp 
  try simp [h100]
  repeat' (first
    | (refine CallX.pure (hla) (by simp) (by simp) ?_; try simp [h100])
    | (refine CallK.intro (hla) (by simp) (by simp) ?_; try simp [h100])
    | (refine CallG.intro (fun _ => hla) (by simp) (by simp) ?_; try simp [h100])
    | ((with_reducible refine PreK.intro ?_ ?_); (next => (first | omega | (intros; first | omega | (refine ⟨by omega, ?_⟩; repeat (first | assumption | constructor)) | assumption))); intro _; try simp [h100])
    | fail)
  refine CondK.ff ?_
  try simp 
  try simp 
  repeat' (first
    | (refine CallX.pure (rCopy_c s hs) (by simp) (by simp) ?_; try simp )
    | (refine CallK.intro (rCopy_c s hs) (by simp) (by simp) ?_; try simp )
    | (refine CallG.intro (fun _ => rCopy_c s hs) (by simp) (by simp) ?_; try simp )
    | ((with_reducible refine PreK.intro ?_ ?_); (next => (first | omega | (intros; first | omega | (refine ⟨by omega, ?_⟩; repeat (first | assumption | constructor)) | assumption))); intro _; try simp )
    | fail)
  refine CallX.mem 1000 (by simpa using hm) (by simp) (by simp) (by simp) ?_
  try simp 
  repeat (refine PreK.intro (by first | omega | (intros; first | omega | (refine ⟨by omega, ?_⟩; simp_all; done) | (simp_all; done) | (simp_all; omega))) fun _ => ?_; (try simp ))
  try simp 
  repeat' (first
    | (refine CallX.pure (hW) (by simp) (by simp) ?_; try simp )
    | (refine CallK.intro (hW) (by simp) (by simp) ?_; try simp )
    | (refine CallG.intro (fun _ => hW) (by simp) (by simp) ?_; try simp )
    | ((with_reducible refine PreK.intro ?_ ?_); (next => (first | omega | (intros; first | omega | (refine ⟨by omega, ?_⟩; repeat (first | assumption | constructor)) | assumption))); intro _; try simp )
    | fail)
  refine CallX.deep (by simpa using hsm) (by simp) (by simp) ?_
  try simp 
  repeat (refine PreK.intro (by first | omega | (intros; first | omega | (refine ⟨by omega, ?_⟩; simp_all; done) | (simp_all; done) | (simp_all; omega))) fun _ => ?_; (try simp ))
  refine CondK.ff ?_
  try simp 
  try simp 
  repeat' (first
    | (refine CallX.pure (hR1) (by simp) (by simp) ?_; try simp )
    | (refine CallK.intro (hR1) (by simp) (by simp) ?_; try simp )
    | (refine CallG.intro (fun _ => hR1) (by simp) (by simp) ?_; try simp )
    | ((with_reducible refine PreK.intro ?_ ?_); (next => (first | omega | (intros; first | omega | (refine ⟨by omega, ?_⟩; repeat (first | assumption | constructor)) | assumption))); intro _; try simp )
    | fail)
  refine ShiftK.start [8, 2, 9, 12, 13] (by simp) ?_
  try simp 
  repeat (refine PreK.intro (by first | omega | (intros; first | omega | (refine ⟨by omega, ?_⟩; simp_all; done) | (simp_all; done) | (simp_all; omega))) fun _ => ?_; (try simp ))
  try simp 
  repeat' (first
    | (refine CallX.pure (hR2) (by simp) (by simp) ?_; try simp )
    | (refine CallK.intro (hR2) (by simp) (by simp) ?_; try simp )
    | (refine CallG.intro (fun _ => hR2) (by simp) (by simp) ?_; try simp )
    | ((with_reducible refine PreK.intro ?_ ?_); (next => (first | omega | (intros; first | omega | (refine ⟨by omega, ?_⟩; repeat (first | assumption | constructor)) | assumption))); intro _; try simp )
    | fail)
  refine CallG.intro (r := bv true) (fun hh => by
    have q : E1 = 0 := by
      simp at hh
      exact hh.1
    rw [(hF q).2] at hp
    simpa using hp) (by simp) (by simp) ?_
  try simp 
  repeat (refine PreK.intro (by first | omega | (intros; first | omega | (refine ⟨by omega, ?_⟩; simp_all; done) | (simp_all; done) | (simp_all; omega))) fun _ => ?_; (try simp ))
  have hok : (!decide (E1 = 0) || decide (E2 = 0)) = true := by
    by_cases q : E1 = 0
    · simp [q, (hF q).1]
    · simp [q]
  refine ShiftK.stop [16] [0, 7, 8] (by simp) (by simp) ?_
  try simp [hok]
  repeat (refine PreK.intro (by first | omega | (intros; first | omega | (refine ⟨by omega, ?_⟩; simp_all; done) | (simp_all; done) | (simp_all; omega))) fun _ => ?_; (try simp [hok]))
  refine LoopK.by (ι := Nat × List (List Int)) (fun x => ⟨[(17, iv x.1), (16, bv true), (8, .sl 1007 6 0 5), (7, rulesV s), (0, rulesV s)], (1007, some ⟨4, namU 0 [a, b, c, d, e], 6, true⟩) :: rowU 0 x.2⟩) (fun x => 5 - x.1)
    (fun x => x.1 ≤ 5 ∧ x.2.map (·.length) = ([a, b, c, d, e] : List Rule).map (·.to.length)) (0, ([a, b, c, d, e] : List Rule).map (·.to)) ⟨Nat.zero_le _, by simp⟩ (by simp [namU, rowU]) ?_
  intro ⟨i, tos⟩ Q' ⟨hi, hl⟩ hq he hr
  dsimp only at hi hl
  have hln := len_of hl
  have b0 := (hso.2 a (by simp)).1
  have b1 := (hso.2 b (by simp)).1
  have b2 := (hso.2 c (by simp)).1
  have b3 := (hso.2 d (by simp)).1
  have b4 := (hso.2 e (by simp)).1
  obtain ⟨u1, u2, u3, u4, u5, rfl⟩ : ∃ u1 u2 u3 u4 u5, tos = [u1, u2, u3, u4, u5] := by
    match tos, hln with
    | [u1, u2, u3, u4, u5], _ => exact ⟨u1, u2, u3, u4, u5, rfl⟩
  simp only [List.map_cons, List.map_nil, List.cons.injEq, and_true] at hl
  obtain ⟨lu1, lu2, lu3, lu4, lu5⟩ := hl
  have hi6 : i = 0 ∨ i = 1 ∨ i = 2 ∨ i = 3 ∨ i = 4 ∨ i = 5 := by omega
  rcases hi6 with rfl | rfl | rfl | rfl | rfl | rfl
  · simp only [namU, rowU]
    try simp 
    repeat (refine PreK.intro (by first | omega | (intros; first | omega | (refine ⟨by omega, ?_⟩; simp_all; done) | (simp_all; done) | (simp_all; omega))) fun _ => ?_; (try simp ))
    refine CondK.tt ?_
    try simp 
    try simp 
    repeat (refine PreK.intro (by first | omega | (intros; first | omega | (refine ⟨by omega, ?_⟩; simp_all; done) | (simp_all; done) | (simp_all; omega))) fun _ => ?_; (try simp ))
    refine LoopK.by (ι := Nat × List Int) (fun y => ⟨[(18, iv y.1), (17, iv 0), (16, bv true), (8, .sl 1007 6 0 5), (7, rulesV s), (0, rulesV s)], [(1007, some ⟨4, namU 0 [a, b, c, d, e], 6, true⟩), (1100, some ⟨1, y.2.map iv, 1, false⟩), (1101, some ⟨1, u2.map iv, 1, false⟩), (1102, some ⟨1, u3.map iv, 1, false⟩), (1103, some ⟨1, u4.map iv, 1, false⟩), (1104, some ⟨1, u5.map iv, 1, false⟩)]⟩) (fun y => a.to.length - y.1)
      (fun y => y.1 ≤ a.to.length ∧ y.2.length = a.to.length) (0, u1) ⟨Nat.zero_le _, lu1⟩ (by simp [namU]) ?_
    intro ⟨j, y⟩ Q2 ⟨hj, hy⟩ hq2 he2 hr2
    dsimp only at hj hy
    simp only [namU]
    try simp 
    repeat (refine PreK.intro (by first | omega | (intros; first | omega | (refine ⟨by omega, ?_⟩; simp_all; done) | (simp_all; done) | (simp_all; omega))) fun _ => ?_; (try simp ))
    refine CondK.intro (fun h3 => ?_) (fun h3 => ?_)
    · simp at h3
      have hjy : j < y.length := by omega
      try simp [h3, hjy, hy]
      repeat (refine PreK.intro (by first | omega | (intros; first | omega | (refine ⟨by omega, ?_⟩; simp_all; done) | (simp_all; done) | (simp_all; omega))) fun _ => ?_; (try simp [h3, hjy, hy]))
      refine hq2 (j + 1, y.set j (-9)) _ ⟨by dsimp only; omega, by simpa using hy⟩ (by dsimp only; omega) ?_
      simp [List.map_set, namU]
    · simp at h3
      try simp 
      apply he2
      try simp 
      repeat (refine PreK.intro (by first | omega | (intros; first | omega | (refine ⟨by omega, ?_⟩; simp_all; done) | (simp_all; done) | (simp_all; omega))) fun _ => ?_; (try simp ))
      refine hq (1, [y, u2, u3, u4, u5]) _ ⟨by dsimp only; omega, by simp [hy, lu2, lu3, lu4, lu5]⟩ (by dsimp only; omega) ?_
      simp [namU, rowU]
  · simp only [namU, rowU]
    try simp 
    repeat (refine PreK.intro (by first | omega | (intros; first | omega | (refine ⟨by omega, ?_⟩; simp_all; done) | (simp_all; done) | (simp_all; omega))) fun _ => ?_; (try simp ))
    refine CondK.tt ?_
    try simp 
    try simp 
    repeat (refine PreK.intro (by first | omega | (intros; first | omega | (refine ⟨by omega, ?_⟩; simp_all; done) | (simp_all; done) | (simp_all; omega))) fun _ => ?_; (try simp ))
    refine LoopK.by (ι := Nat × List Int) (fun y => ⟨[(18, iv y.1), (17, iv 1), (16, bv true), (8, .sl 1007 6 0 5), (7, rulesV s), (0, rulesV s)], [(1007, some ⟨4, namU 0 [a, b, c, d, e], 6, true⟩), (1100, some ⟨1, u1.map iv, 1, false⟩), (1101, some ⟨1, y.2.map iv, 1, false⟩), (1102, some ⟨1, u3.map iv, 1, false⟩), (1103, some ⟨1, u4.map iv, 1, false⟩), (1104, some ⟨1, u5.map iv, 1, false⟩)]⟩) (fun y => b.to.length - y.1)
      (fun y => y.1 ≤ b.to.length ∧ y.2.length = b.to.length) (0, u2) ⟨Nat.zero_le _, lu2⟩ (by simp [namU]) ?_
    intro ⟨j, y⟩ Q2 ⟨hj, hy⟩ hq2 he2 hr2
    dsimp only at hj hy
    simp only [namU]
    try simp 
    repeat (refine PreK.intro (by first | omega | (intros; first | omega | (refine ⟨by omega, ?_⟩; simp_all; done) | (simp_all; done) | (simp_all; omega))) fun _ => ?_; (try simp ))
    refine CondK.intro (fun h3 => ?_) (fun h3 => ?_)
    · simp at h3
      have hjy : j < y.length := by omega
      try simp [h3, hjy, hy]
      repeat (refine PreK.intro (by first | omega | (intros; first | omega | (refine ⟨by omega, ?_⟩; simp_all; done) | (simp_all; done) | (simp_all; omega))) fun _ => ?_; (try simp [h3, hjy, hy]))
      refine hq2 (j + 1, y.set j (-9)) _ ⟨by dsimp only; omega, by simpa using hy⟩ (by dsimp only; omega) ?_
      simp [List.map_set, namU]
    · simp at h3
      try simp 
      apply he2
      try simp 
      repeat (refine PreK.intro (by first | omega | (intros; first | omega | (refine ⟨by omega, ?_⟩; simp_all; done) | (simp_all; done) | (simp_all; omega))) fun _ => ?_; (try simp ))
      refine hq (2, [u1, y, u3, u4, u5]) _ ⟨by dsimp only; omega, by simp [lu1, hy, lu3, lu4, lu5]⟩ (by dsimp only; omega) ?_
      simp [namU, rowU]
  · simp only [namU, rowU]
    try simp 
    repeat (refine PreK.intro (by first | omega | (intros; first | omega | (refine ⟨by omega, ?_⟩; simp_all; done) | (simp_all; done) | (simp_all; omega))) fun _ => ?_; (try simp ))
    refine CondK.tt ?_
    try simp 
    try simp 
    repeat (refine PreK.intro (by first | omega | (intros; first | omega | (refine ⟨by omega, ?_⟩; simp_all; done) | (simp_all; done) | (simp_all; omega))) fun _ => ?_; (try simp ))
    refine LoopK.by (ι := Nat × List Int) (fun y => ⟨[(18, iv y.1), (17, iv 2), (16, bv true), (8, .sl 1007 6 0 5), (7, rulesV s), (0, rulesV s)], [(1007, some ⟨4, namU 0 [a, b, c, d, e], 6, true⟩), (1100, some ⟨1, u1.map iv, 1, false⟩), (1101, some ⟨1, u2.map iv, 1, false⟩), (1102, some ⟨1, y.2.map iv, 1, false⟩), (1103, some ⟨1, u4.map iv, 1, false⟩), (1104, some ⟨1, u5.map iv, 1, false⟩)]⟩) (fun y => c.to.length - y.1)
      (fun y => y.1 ≤ c.to.length ∧ y.2.length = c.to.length) (0, u3) ⟨Nat.zero_le _, lu3⟩ (by simp [namU]) ?_
    intro ⟨j, y⟩ Q2 ⟨hj, hy⟩ hq2 he2 hr2
    dsimp only at hj hy
    simp only [namU]
    try simp 
    repeat (refine PreK.intro (by first | omega | (intros; first | omega | (refine ⟨by omega, ?_⟩; simp_all; done) | (simp_all; done) | (simp_all; omega))) fun _ => ?_; (try simp ))
    refine CondK.intro (fun h3 => ?_) (fun h3 => ?_)
    · simp at h3
      have hjy : j < y.length := by omega
      try simp [h3, hjy, hy]
      repeat (refine PreK.intro (by first | omega | (intros; first | omega | (refine ⟨by omega, ?_⟩; simp_all; done) | (simp_all; done) | (simp_all; omega))) fun _ => ?_; (try simp [h3, hjy, hy]))
      refine hq2 (j + 1, y.set j (-9)) _ ⟨by dsimp only; omega, by simpa using hy⟩ (by dsimp only; omega) ?_
      simp [List.map_set, namU]
    · simp at h3
      try simp 
      apply he2
      try simp 
      repeat (refine PreK.intro (by first | omega | (intros; first | omega | (refine ⟨by omega, ?_⟩; simp_all; done) | (simp_all; done) | (simp_all; omega))) fun _ => ?_; (try simp ))
      refine hq (3, [u1, u2, y, u4, u5]) _ ⟨by dsimp only; omega, by simp [lu1, lu2, hy, lu4, lu5]⟩ (by dsimp only; omega) ?_
      simp [namU, rowU]
  · simp only [namU, rowU]
    try simp 
    repeat (refine PreK.intro (by first | omega | (intros; first | omega | (refine ⟨by omega, ?_⟩; simp_all; done) | (simp_all; done) | (simp_all; omega))) fun _ => ?_; (try simp ))
    refine CondK.tt ?_
    try simp 
    try simp 
    repeat (refine PreK.intro (by first | omega | (intros; first | omega | (refine ⟨by omega, ?_⟩; simp_all; done) | (simp_all; done) | (simp_all; omega))) fun _ => ?_; (try simp ))
    refine LoopK.by (ι := Nat × List Int) (fun y => ⟨[(18, iv y.1), (17, iv 3), (16, bv true), (8, .sl 1007 6 0 5), (7, rulesV s), (0, rulesV s)], [(1007, some ⟨4, namU 0 [a, b, c, d, e], 6, true⟩), (1100, some ⟨1, u1.map iv, 1, false⟩), (1101, some ⟨1, u2.map iv, 1, false⟩), (1102, some ⟨1, u3.map iv, 1, false⟩), (1103, some ⟨1, y.2.map iv, 1, false⟩), (1104, some ⟨1, u5.map iv, 1, false⟩)]⟩) (fun y => d.to.length - y.1)
      (fun y => y.1 ≤ d.to.length ∧ y.2.length = d.to.length) (0, u4) ⟨Nat.zero_le _, lu4⟩ (by simp [namU]) ?_
    intro ⟨j, y⟩ Q2 ⟨hj, hy⟩ hq2 he2 hr2
    dsimp only at hj hy
    simp only [namU]
    try simp 
    repeat (refine PreK.intro (by first | omega | (intros; first | omega | (refine ⟨by omega, ?_⟩; simp_all; done) | (simp_all; done) | (simp_all; omega))) fun _ => ?_; (try simp ))
    refine CondK.intro (fun h3 => ?_) (fun h3 => ?_)
    · simp at h3
      have hjy : j < y.length := by omega
      try simp [h3, hjy, hy]
      repeat (refine PreK.intro (by first | omega | (intros; first | omega | (refine ⟨by omega, ?_⟩; simp_all; done) | (simp_all; done) | (simp_all; omega))) fun _ => ?_; (try simp [h3, hjy, hy]))
      refine hq2 (j + 1, y.set j (-9)) _ ⟨by dsimp only; omega, by simpa using hy⟩ (by dsimp only; omega) ?_
      simp [List.map_set, namU]
    · simp at h3
      try simp 
      apply he2
      try simp 
      repeat (refine PreK.intro (by first | omega | (intros; first | omega | (refine ⟨by omega, ?_⟩; simp_all; done) | (simp_all; done) | (simp_all; omega))) fun _ => ?_; (try simp ))
      refine hq (4, [u1, u2, u3, y, u5]) _ ⟨by dsimp only; omega, by simp [lu1, lu2, lu3, hy, lu5]⟩ (by dsimp only; omega) ?_
      simp [namU, rowU]
  · simp only [namU, rowU]
    try simp 
    repeat (refine PreK.intro (by first | omega | (intros; first | omega | (refine ⟨by omega, ?_⟩; simp_all; done) | (simp_all; done) | (simp_all; omega))) fun _ => ?_; (try simp ))
    refine CondK.tt ?_
    try simp 
    try simp 
    repeat (refine PreK.intro (by first | omega | (intros; first | omega | (refine ⟨by omega, ?_⟩; simp_all; done) | (simp_all; done) | (simp_all; omega))) fun _ => ?_; (try simp ))
    refine LoopK.by (ι := Nat × List Int) (fun y => ⟨[(18, iv y.1), (17, iv 4), (16, bv true), (8, .sl 1007 6 0 5), (7, rulesV s), (0, rulesV s)], [(1007, some ⟨4, namU 0 [a, b, c, d, e], 6, true⟩), (1100, some ⟨1, u1.map iv, 1, false⟩), (1101, some ⟨1, u2.map iv, 1, false⟩), (1102, some ⟨1, u3.map iv, 1, false⟩), (1103, some ⟨1, u4.map iv, 1, false⟩), (1104, some ⟨1, y.2.map iv, 1, false⟩)]⟩) (fun y => e.to.length - y.1)
      (fun y => y.1 ≤ e.to.length ∧ y.2.length = e.to.length) (0, u5) ⟨Nat.zero_le _, lu5⟩ (by simp [namU]) ?_
    intro ⟨j, y⟩ Q2 ⟨hj, hy⟩ hq2 he2 hr2
    dsimp only at hj hy
    simp only [namU]
    try simp 
    repeat (refine PreK.intro (by first | omega | (intros; first | omega | (refine ⟨by omega, ?_⟩; simp_all; done) | (simp_all; done) | (simp_all; omega))) fun _ => ?_; (try simp ))
    refine CondK.intro (fun h3 => ?_) (fun h3 => ?_)
    · simp at h3
      have hjy : j < y.length := by omega
      try simp [h3, hjy, hy]
      repeat (refine PreK.intro (by first | omega | (intros; first | omega | (refine ⟨by omega, ?_⟩; simp_all; done) | (simp_all; done) | (simp_all; omega))) fun _ => ?_; (try simp [h3, hjy, hy]))
      refine hq2 (j + 1, y.set j (-9)) _ ⟨by dsimp only; omega, by simpa using hy⟩ (by dsimp only; omega) ?_
      simp [List.map_set, namU]
    · simp at h3
      try simp 
      apply he2
      try simp 
      repeat (refine PreK.intro (by first | omega | (intros; first | omega | (refine ⟨by omega, ?_⟩; simp_all; done) | (simp_all; done) | (simp_all; omega))) fun _ => ?_; (try simp ))
      refine hq (5, [u1, u2, u3, u4, y]) _ ⟨by dsimp only; omega, by simp [lu1, lu2, lu3, lu4, hy]⟩ (by dsimp only; omega) ?_
      simp [namU, rowU]
  · simp only [namU, rowU]
    try simp 
    repeat (refine PreK.intro (by first | omega | (intros; first | omega | (refine ⟨by omega, ?_⟩; simp_all; done) | (simp_all; done) | (simp_all; omega))) fun _ => ?_; (try simp ))
    refine CondK.ff ?_
    try simp 
    try simp 
    apply he
    try simp 
    repeat' (first
      | (refine CallX.pure (hss) (by simp) (by simp) ?_; try simp )
      | (refine CallK.intro (hss) (by simp) (by simp) ?_; try simp )
      | (refine CallG.intro (fun _ => hss) (by simp) (by simp) ?_; try simp )
      | (refine CallX.pure (known_c) (by simp) (by simp) ?_; try simp )
      | (refine CallK.intro (known_c) (by simp) (by simp) ?_; try simp )
      | (refine CallG.intro (fun _ => known_c) (by simp) (by simp) ?_; try simp )
      | ((with_reducible refine PreK.intro ?_ ?_); (next => (first | omega | (intros; first | omega | (refine ⟨by omega, ?_⟩; repeat (first | assumption | constructor)) | assumption))); intro _; try simp )
      | fail)
theorem Without_e (s : List Rule) (k : Int) (h : Sys.small s) (he : ¬ (WithoutL s k).2 = 0) : WithoutL s k = ([], (WithoutL s k).2) ∧ CallP Try.prog 33 [rulesV s, iv k] (.tup [rulesV [], iv (WithoutL s k).2]) := by
  by_cases h1 : sysErr s = 0
  · by_cases h2 : (decide (0 ≤ k) && decide (k ≤ (s.length : Int) - 1)) = true
    · exfalso
      apply he
      unfold WithoutL
      rw [if_neg (by simp [h1]), if_neg (by rw [h2]; simp)]
    · have h2' : (decide (0 ≤ k) && decide (k ≤ (s.length : Int) - 1)) = false := by simpa using h2
      have e : WithoutL s k = ([], 4) := by unfold WithoutL; rw [if_neg (by simp [h1]), if_pos h2']
      rw [e]
      refine ⟨rfl, ?_⟩
      have hv := Validate_c s h
      rw [h1] at hv
      have hw := fwithin_c k 0 ((s.length : Int) - 1)
      rw [h2'] at hw
      have hsl := h.1
      refine C33 (by simp) ?_
      simp [A33]
      try simp 
      repeat' (first
        | (refine CallX.pure (hv) (by simp) (by simp) ?_; try simp )
        | (refine CallK.intro (hv) (by simp) (by simp) ?_; try simp )
        | (refine CallG.intro (fun _ => hv) (by simp) (by simp) ?_; try simp )
        | ((with_reducible refine PreK.intro ?_ ?_); (next => (first | omega | (intros; first | omega | (refine ⟨by omega, ?_⟩; repeat (first | assumption | constructor)) | assumption))); intro _; try simp )
        | fail)
      refine CondK.ff ?_
      try simp 
      try simp 
      repeat' (first
        | (refine CallX.pure (hw) (by simp) (by simp) ?_; try simp )
        | (refine CallK.intro (hw) (by simp) (by simp) ?_; try simp )
        | (refine CallG.intro (fun _ => hw) (by simp) (by simp) ?_; try simp )
        | ((with_reducible refine PreK.intro ?_ ?_); (next => (first | omega | (intros; first | omega | (refine ⟨by omega, ?_⟩; repeat (first | assumption | constructor)) | assumption))); intro _; try simp )
        | fail)
      refine CondK.tt ?_
      try simp 
      try simp 
      repeat' (first
        | ((with_reducible refine PreK.intro ?_ ?_); (next => (first | omega | (intros; first | omega | (refine ⟨by omega, ?_⟩; repeat (first | assumption | constructor)) | assumption))); intro _; try simp )
        | fail)
  · have e : WithoutL s k = ([], sysErr s) := by unfold WithoutL; rw [if_pos h1]
    rw [e]
    refine ⟨rfl, ?_⟩
    have hv := Validate_c s h
    have hsl := h.1
    refine C33 (by simp) ?_
    simp [A33]
    try simp [h1]
    repeat' (first
      | (refine CallX.pure (hv) (by simp) (by simp) ?_; try simp [h1])
      | (refine CallK.intro (hv) (by simp) (by simp) ?_; try simp [h1])
      | (refine CallG.intro (fun _ => hv) (by simp) (by simp) ?_; try simp [h1])
      | ((with_reducible refine PreK.intro ?_ ?_); (next => (first | omega | (intros; first | omega | (refine ⟨by omega, ?_⟩; repeat (first | assumption | constructor)) | assumption))); intro _; try simp [h1])
      | fail)
    refine CondK.tt ?_
    try simp 
    try simp 
    repeat' (first
      | ((with_reducible refine PreK.intro ?_ ?_); (next => (first | omega | (intros; first | omega | (refine ⟨by omega, ?_⟩; repeat (first | assumption | constructor)) | assumption))); intro _; try simp )
      | fail)
theorem without_err (s : List Rule) (k : Int) (w : List Int) (hs : Sys.small s) (hw : w.length ≤ 1000) (hlg : longS s = false) (hb : s.length ≤ big) (h100 : ¬ 100 < w.length) (he : ¬ (WithoutL s k).2 = 0) :
    CallP Try.prog 5 [rulesV s, iv k, ints w] (bv true) := by
  refine CH5 (by simp) ?_
  obtain ⟨hWe, hm⟩ := Without_e s k hs he
  have hW := rWithout_c s k hs
  generalize (WithoutL s k).2 = E at hWe hm he
  rw [hWe] at hW
  have hsm := rSame_c [] [] (⟨by simp, fun r hr => by cases hr⟩ : Sys.small [])
  have hss := rSame_c s s hs
  have hR1 := Reach_c s w hs hw
  have hR2 := Reach_c [] w (⟨by simp, fun r hr => by cases hr⟩ : Sys.small []) hw
  have hlo := long3_c s hb
  rw [hlg] at hlo
  have hla := large3_c w
  generalize ReachE s w = R1 at *
  generalize ReachE [] w = R2 at *
  obtain ⟨L1, E1⟩ := R1
  obtain ⟨L2, E2⟩ := R2
  dsimp only at hR1 hR2
  simp [A5]
  refine CallX.pure (by simpa using hlo) (by simp) (by simp) ?_
  try simp 
  try simp [h100]
  repeat' (first
    | (refine CallX.pure (hla) (by simp) (by simp) ?_; try simp [h100])
    | (refine CallK.intro (hla) (by simp) (by simp) ?_; try simp [h100])
    | (refine CallG.intro (fun _ => hla) (by simp) (by simp) ?_; try simp [h100])
    | ((with_reducible refine PreK.intro ?_ ?_); (next => (first | omega | (intros; first | omega | (refine ⟨by omega, ?_⟩; repeat (first | assumption | constructor)) | assumption))); intro _; try simp [h100])
    | fail)
  refine CondK.ff ?_
  try simp 
  try simp 
  repeat' (first
    | (refine CallX.pure (rCopy_c s hs) (by simp) (by simp) ?_; try simp )
    | (refine CallK.intro (rCopy_c s hs) (by simp) (by simp) ?_; try simp )
    | (refine CallG.intro (fun _ => rCopy_c s hs) (by simp) (by simp) ?_; try simp )
    | (refine CallX.pure (hm) (by simp) (by simp) ?_; try simp )
    | (refine CallK.intro (hm) (by simp) (by simp) ?_; try simp )
    | (refine CallG.intro (fun _ => hm) (by simp) (by simp) ?_; try simp )
    | (refine CallX.pure (hW) (by simp) (by simp) ?_; try simp )
    | (refine CallK.intro (hW) (by simp) (by simp) ?_; try simp )
    | (refine CallG.intro (fun _ => hW) (by simp) (by simp) ?_; try simp )
    | ((with_reducible refine PreK.intro ?_ ?_); (next => (first | omega | (intros; first | omega | (refine ⟨by omega, ?_⟩; repeat (first | assumption | constructor)) | assumption))); intro _; try simp )
    | fail)
  try simp 
  repeat' (first
    | (refine CallX.pure (hsm) (by simp) (by simp) ?_; try simp )
    | (refine CallK.intro (hsm) (by simp) (by simp) ?_; try simp )
    | (refine CallG.intro (fun _ => hsm) (by simp) (by simp) ?_; try simp )
    | ((with_reducible refine PreK.intro ?_ ?_); (next => (first | omega | (intros; first | omega | (refine ⟨by omega, ?_⟩; repeat (first | assumption | constructor)) | assumption))); intro _; try simp )
    | fail)
  try simp 
  repeat (refine PreK.intro (by first | omega | (intros; first | omega | (refine ⟨by omega, ?_⟩; simp_all; done) | (simp_all; done) | (simp_all; omega))) fun _ => ?_; (try simp ))
  refine CondK.ff ?_
  try simp 
  try simp 
  repeat' (first
    | (refine CallX.pure (hR1) (by simp) (by simp) ?_; try simp )
    | (refine CallK.intro (hR1) (by simp) (by simp) ?_; try simp )
    | (refine CallG.intro (fun _ => hR1) (by simp) (by simp) ?_; try simp )
    | ((with_reducible refine PreK.intro ?_ ?_); (next => (first | omega | (intros; first | omega | (refine ⟨by omega, ?_⟩; repeat (first | assumption | constructor)) | assumption))); intro _; try simp )
    | fail)
  refine ShiftK.go ?_
  try simp 
  repeat (refine PreK.intro (by first | omega | (intros; first | omega | (refine ⟨by omega, ?_⟩; simp_all; done) | (simp_all; done) | (simp_all; omega))) fun _ => ?_; (try simp ))
  try simp 
  repeat' (first
    | (refine CallX.pure (hR2) (by simp) (by simp) ?_; try simp )
    | (refine CallK.intro (hR2) (by simp) (by simp) ?_; try simp )
    | (refine CallG.intro (fun _ => hR2) (by simp) (by simp) ?_; try simp )
    | ((with_reducible refine PreK.intro ?_ ?_); (next => (first | omega | (intros; first | omega | (refine ⟨by omega, ?_⟩; repeat (first | assumption | constructor)) | assumption))); intro _; try simp )
    | fail)
  refine CallG.intro (r := bv true) (fun hh => by simp [he] at hh) (by simp [he]) (by simp) ?_
  try simp [he]
  repeat (refine PreK.intro (by first | omega | (intros; first | omega | (refine ⟨by omega, ?_⟩; simp_all; done) | (simp_all; done) | (simp_all; omega))) fun _ => ?_; (try simp [he]))
  refine ShiftK.go ?_
  try simp [he]
  repeat (refine PreK.intro (by first | omega | (intros; first | omega | (refine ⟨by omega, ?_⟩; simp_all; done) | (simp_all; done) | (simp_all; omega))) fun _ => ?_; (try simp [he]))
  refine LoopK.by (ι := Unit) (fun x => ⟨[(17, iv 0), (16, bv true), (8, rulesV []), (7, rulesV s), (0, rulesV s)], []⟩) (fun x => 0) (fun x => True) () trivial (by simp [he]) ?_
  intro ⟨⟩ Q' _ hq he2 hr
  try simp 
  repeat (refine PreK.intro (by first | omega | (intros; first | omega | (refine ⟨by omega, ?_⟩; simp_all; done) | (simp_all; done) | (simp_all; omega))) fun _ => ?_; (try simp ))
  refine CondK.ff ?_
  try simp 
  try simp 
  apply he2
  try simp 
  repeat' (first
    | (refine CallX.pure (hss) (by simp) (by simp) ?_; try simp )
    | (refine CallK.intro (hss) (by simp) (by simp) ?_; try simp )
    | (refine CallG.intro (fun _ => hss) (by simp) (by simp) ?_; try simp )
    | (refine CallX.pure (known_c) (by simp) (by simp) ?_; try simp )
    | (refine CallK.intro (known_c) (by simp) (by simp) ?_; try simp )
    | (refine CallG.intro (fun _ => known_c) (by simp) (by simp) ?_; try simp )
    | ((with_reducible refine PreK.intro ?_ ?_); (next => (first | omega | (intros; first | omega | (refine ⟨by omega, ?_⟩; repeat (first | assumption | constructor)) | assumption))); intro _; try simp )
    | fail)
theorem lawFeedWithout_c (s : List Rule) (k : Int) (w : List Int) (hb : s.length ≤ big) (hwb : w.length ≤ big) : CallP Try.prog 5 [rulesV s, iv k, ints w] (bv true) := by
  cases hlg : longS s
  · have hs := longS_small hlg
    have hlo := long3_c s hb
    rw [hlg] at hlo
    have hla := large3_c w
    by_cases h100 : 100 < w.length
    · refine CH5 (by simp) ?_
      simp [A5]
      refine CallX.pure (by simpa using hlo) (by simp) (by simp) ?_
      try simp 
      try simp [h100]
      repeat' (first
        | (refine CallX.pure (hla) (by simp) (by simp) ?_; try simp [h100])
        | (refine CallK.intro (hla) (by simp) (by simp) ?_; try simp [h100])
        | (refine CallG.intro (fun _ => hla) (by simp) (by simp) ?_; try simp [h100])
        | ((with_reducible refine PreK.intro ?_ ?_); (next => (first | omega | (intros; first | omega | (refine ⟨by omega, ?_⟩; repeat (first | assumption | constructor)) | assumption))); intro _; try simp [h100])
        | fail)
      refine CondK.tt ?_
      try simp 
      try simp 
      repeat' (first
        | (refine CallX.pure (known_c) (by simp) (by simp) ?_; try simp )
        | (refine CallK.intro (known_c) (by simp) (by simp) ?_; try simp )
        | (refine CallG.intro (fun _ => known_c) (by simp) (by simp) ?_; try simp )
        | ((with_reducible refine PreK.intro ?_ ?_); (next => (first | omega | (intros; first | omega | (refine ⟨by omega, ?_⟩; repeat (first | assumption | constructor)) | assumption))); intro _; try simp )
        | fail)
    · by_cases he : (WithoutL s k).2 = 0
      · obtain ⟨h1, n, rfl, hn, _⟩ := without_ok he
        have h6 := (sysErr_zero h1).1
        have hl5 : (s.eraseIdx n).length ≤ 5 := by rw [List.length_eraseIdx, if_pos hn]; omega
        rcases six_of hl5 with e | ⟨a, e⟩ | ⟨a, b, e⟩ | ⟨a, b, c, e⟩ | ⟨a, b, c, d, e⟩ | ⟨a, b, c, d, f, e⟩
        · exact without_at0 s n w hs (by omega) hlg hb h1 hn h6 e h100
        · exact without_at1 s n w a hs (by omega) hlg hb h1 hn h6 e h100
        · exact without_at2 s n w a b hs (by omega) hlg hb h1 hn h6 e h100
        · exact without_at3 s n w a b c hs (by omega) hlg hb h1 hn h6 e h100
        · exact without_at4 s n w a b c d hs (by omega) hlg hb h1 hn h6 e h100
        · exact without_at5 s n w a b c d f hs (by omega) hlg hb h1 hn h6 e h100
      · exact without_err s k w hs (by omega) hlg hb h100 he
  · have hlo := long3_c s hb
    rw [hlg] at hlo
    refine CH5 (by simp) ?_
    simp [A5]
    refine CallX.pure (by simpa using hlo) (by simp) (by simp) ?_
    try simp 
    refine CallG.intro (r := bv true) (fun hh => by cases hh) (by simp) (by simp) ?_
    try simp 
    refine CondK.tt ?_
    try simp 
    try simp 
    repeat' (first
      | (refine CallX.pure (known_c) (by simp) (by simp) ?_; try simp )
      | (refine CallK.intro (known_c) (by simp) (by simp) ?_; try simp )
      | (refine CallG.intro (fun _ => known_c) (by simp) (by simp) ?_; try simp )
      | ((with_reducible refine PreK.intro ?_ ?_); (next => (first | omega | (intros; first | omega | (refine ⟨by omega, ?_⟩; repeat (first | assumption | constructor)) | assumption))); intro _; try simp )
      | fail)
end Go.Proofs.Ytkhddecnllcaiaa
end
