/- Part 5 of the proof: the value layer and the contracts of the functions that the statement reaches; proved without conditions beyond those each theorem states. -/
import Derived.Test.YtaooenmkofjafaaV2
import Derived.Test.YtaooenmkofjafaaV3
import Derived.Test.YtaooenmkofjafaaV4
set_option linter.unusedSimpArgs false
set_option linter.unusedVariables false

section
/- Contracts: candidates and grounds. -/
namespace Go.Proofs.Ytaooenmkofjafaa
open Go.Abs Go
set_option maxRecDepth 20000
set_option maxHeartbeats 2000000
attribute [local irreducible] PreK CondK CallK CallG CallX LoopK
attribute [local simp] avsEq avEq akind teq vkind vEq

/-- A step with its rule. -/
structure Cand where
  step : Step
  rule : Rule
@[simp] def candV (c : Cand) : AV := .agg [iv c.step.rule, iv c.step.place, iv c.rule.frm, ints c.rule.to, ints c.rule.left, ints c.rule.right]
def Cand.small (c : Cand) : Prop := c.rule.small ∧ 0 ≤ c.step.place ∧ c.step.place ≤ 1000
theorem applyM_len (r : Rule) (w : List Int) (p : Int) : (applyM r w p).1.length ≤ 8 := by
  unfold applyM
  split
  · simp
  · split
    · simp
    · split
      · simp
      · rename_i h; simpa using h
theorem isSpecial_c (a b : Cand) (ha : a.small) (hb : b.small) : CallP Try.prog 222 [candV a, candV b] (bv (specM a.rule b.rule && !specM b.rule a.rule)) := by
  refine C222 (by simp) ?_
  simp [A222]
  refine CallX.pure (by simpa using IsSpecial_c a.rule b.rule ha.1 hb.1) (by simp) (by simp) ?_
  try simp 
  refine CallX.pure (by simpa using IsSpecial_c b.rule a.rule hb.1 ha.1) (by simp) (by simp) ?_
  try simp 
  try simp
theorem lasts_c (w : List Int) (a b : Cand) (hw : w.length ≤ 1000) (ha : a.small) (hb : b.small) : CallP Try.prog 119 [ints w, candV a, candV b] (bv (lastsM w a.rule a.step b.rule b.step)) := by
  refine C119 (by simp) ?_
  have hl := applyM_len b.rule w b.step.place
  have ht := hb.1.1
  obtain ⟨ha1, ha2, ha3⟩ := ha
  have hw2 : (applyM b.rule w b.step.place).1.length ≤ 1000 := by omega
  simp [A119]
  try simp 
  repeat' (first
    | (refine CallX.pure (Apply_c b.rule w b.step.place hb.1 hw) (by simp) (by simp) ?_; try simp )
    | (refine CallK.intro (Apply_c b.rule w b.step.place hb.1 hw) (by simp) (by simp) ?_; try simp )
    | (refine CallG.intro (fun _ => Apply_c b.rule w b.step.place hb.1 hw) (by simp) (by simp) ?_; try simp )
    | ((with_reducible refine PreK.intro ?_ ?_); (next => (first | omega | (intros; first | omega | (refine ⟨by omega, ?_⟩; repeat (first | assumption | constructor)) | assumption))); intro _; try simp )
    | fail)
  refine CondK.intro (fun h1 => ?_) (fun h1 => ?_)
  · simp at h1
    try simp 
    repeat' (first
      | ((with_reducible refine PreK.intro ?_ ?_); (next => (first | omega | (intros; first | omega | (refine ⟨by omega, ?_⟩; repeat (first | assumption | constructor)) | assumption))); intro _; try simp )
      | fail)
    refine CondK.intro (fun h2 => ?_) (fun h2 => ?_)
    · simp at h2
      try simp 
      repeat' (first
        | (refine CallX.pure (Apply_c a.rule (applyM b.rule w b.step.place).1 (a.step.place + b.rule.to.length - 1) ha1 hw2) (by simp) (by simp) ?_; try simp )
        | (refine CallK.intro (Apply_c a.rule (applyM b.rule w b.step.place).1 (a.step.place + b.rule.to.length - 1) ha1 hw2) (by simp) (by simp) ?_; try simp )
        | (refine CallG.intro (fun _ => Apply_c a.rule (applyM b.rule w b.step.place).1 (a.step.place + b.rule.to.length - 1) ha1 hw2) (by simp) (by simp) ?_; try simp )
        | ((with_reducible refine PreK.intro ?_ ?_); (next => (first | omega | (intros; first | omega | (refine ⟨by omega, ?_⟩; repeat (first | assumption | constructor)) | assumption))); intro _; try simp )
        | fail)
      simp [lastsM, lastPlace, h1, h2]
    · simp at h2
      try simp 
      repeat' (first
        | (refine CallX.pure (Apply_c a.rule (applyM b.rule w b.step.place).1 (a.step.place + b.rule.to.length) ha1 hw2) (by simp) (by simp) ?_; try simp )
        | (refine CallK.intro (Apply_c a.rule (applyM b.rule w b.step.place).1 (a.step.place + b.rule.to.length) ha1 hw2) (by simp) (by simp) ?_; try simp )
        | (refine CallG.intro (fun _ => Apply_c a.rule (applyM b.rule w b.step.place).1 (a.step.place + b.rule.to.length) ha1 hw2) (by simp) (by simp) ?_; try simp )
        | ((with_reducible refine PreK.intro ?_ ?_); (next => (first | omega | (intros; first | omega | (refine ⟨by omega, ?_⟩; repeat (first | assumption | constructor)) | assumption))); intro _; try simp )
        | fail)
      have h3 : ¬ 0 ≤ b.rule.frm := by omega
      simp [lastsM, lastPlace, h1, h3]
  · simp at h1
    try simp 
    repeat' (first
      | (refine CallX.pure (Apply_c a.rule (applyM b.rule w b.step.place).1 a.step.place ha1 hw2) (by simp) (by simp) ?_; try simp )
      | (refine CallK.intro (Apply_c a.rule (applyM b.rule w b.step.place).1 a.step.place ha1 hw2) (by simp) (by simp) ?_; try simp )
      | (refine CallG.intro (fun _ => Apply_c a.rule (applyM b.rule w b.step.place).1 a.step.place ha1 hw2) (by simp) (by simp) ?_; try simp )
      | ((with_reducible refine PreK.intro ?_ ?_); (next => (first | omega | (intros; first | omega | (refine ⟨by omega, ?_⟩; repeat (first | assumption | constructor)) | assumption))); intro _; try simp )
      | fail)
    have h3 : ¬ b.step.place < a.step.place := by omega
    simp [lastsM, lastPlace, h3]
theorem reason1_c (w : List Int) (a b : Cand) (ha : a.small) (hb : b.small) : CallP Try.prog 221 [ints w, candV a, candV b] (bv (proM w 1 a.rule a.step b.rule b.step)) := by
  refine C221 (by simp) ?_
  simp [A221]
  try simp 
  repeat' (first
    | (refine CallX.pure (isSpecial_c a b ha hb) (by simp) (by simp) ?_; try simp )
    | (refine CallK.intro (isSpecial_c a b ha hb) (by simp) (by simp) ?_; try simp )
    | (refine CallG.intro (fun _ => isSpecial_c a b ha hb) (by simp) (by simp) ?_; try simp )
    | ((with_reducible refine PreK.intro ?_ ?_); (next => (first | omega | (intros; first | omega | (refine ⟨by omega, ?_⟩; repeat (first | assumption | constructor)) | assumption))); intro _; try simp )
    | fail)
  simp [proM]
theorem reason2_c (w : List Int) (a b : Cand) (hw : w.length ≤ 1000) (ha : a.small) (hb : b.small) : CallP Try.prog 223 [ints w, candV a, candV b] (bv (proM w 2 a.rule a.step b.rule b.step)) := by
  refine C223 (by simp) ?_
  simp [A223]
  try simp 
  repeat' (first
    | (refine CallX.pure (lasts_c w a b hw ha hb) (by simp) (by simp) ?_; try simp )
    | (refine CallK.intro (lasts_c w a b hw ha hb) (by simp) (by simp) ?_; try simp )
    | (refine CallG.intro (fun _ => lasts_c w a b hw ha hb) (by simp) (by simp) ?_; try simp )
    | (refine CallX.pure (lasts_c w b a hw hb ha) (by simp) (by simp) ?_; try simp )
    | (refine CallK.intro (lasts_c w b a hw hb ha) (by simp) (by simp) ?_; try simp )
    | (refine CallG.intro (fun _ => lasts_c w b a hw hb ha) (by simp) (by simp) ?_; try simp )
    | ((with_reducible refine PreK.intro ?_ ?_); (next => (first | omega | (intros; first | omega | (refine ⟨by omega, ?_⟩; repeat (first | assumption | constructor)) | assumption))); intro _; try simp )
    | fail)
  simp [proM]
theorem reason3_c (w : List Int) (a b : Cand) : CallP Try.prog 224 [ints w, candV a, candV b] (bv (proM w 3 a.rule a.step b.rule b.step)) := by
  refine C224 (by simp) ?_
  simp [A224]
  try simp [proM]
theorem reason4_c (w : List Int) (a b : Cand) : CallP Try.prog 225 [ints w, candV a, candV b] (bv (proM w 4 a.rule a.step b.rule b.step)) := by
  refine C225 (by simp) ?_
  simp [A225]
  try simp [proM]
theorem reasons_c : CallP Try.prog 188 [] (.agg [.fn 221 [] [], .fn 223 [] [], .fn 224 [] [], .fn 225 [] []]) := by
  refine C188 (by simp) ?_
  simp [A188]
theorem reason_c (w : List Int) (a b : Cand) (hw : w.length ≤ 1000) (ha : a.small) (hb : b.small) (g : Int) (hg : g = 1 ∨ g = 2 ∨ g = 3 ∨ g = 4) :
    CallP Try.prog (if g = 1 then 221 else if g = 2 then 223 else if g = 3 then 224 else 225) [ints w, candV a, candV b] (bv (proM w g a.rule a.step b.rule b.step)) := by
  rcases hg with rfl | rfl | rfl | rfl
  · exact reason1_c w a b ha hb
  · exact reason2_c w a b hw ha hb
  · exact reason3_c w a b
  · exact reason4_c w a b
end Go.Proofs.Ytaooenmkofjafaa
end

section
/- Contracts: grounds, part 2. -/
namespace Go.Proofs.Ytaooenmkofjafaa
open Go.Abs Go
set_option maxRecDepth 20000
set_option maxHeartbeats 2000000
attribute [local irreducible] PreK CondK CallK CallG CallX LoopK
attribute [local simp] avsEq avEq akind teq vkind vEq T_128

theorem decide_c (w : List Int) (g : Int) (a b : Cand) (hw : w.length ≤ 1000) (ha : a.small) (hb : b.small) (hg : g = 1 ∨ g = 2 ∨ g = 3 ∨ g = 4) :
    CallP Try.prog 125 [ints w, iv g, candV a, candV b] (iv (decideM w g a.rule a.step b.rule b.step)) := by
  have h1 := reason_c w a b hw ha hb g hg
  have h2 := reason_c w b a hw hb ha g hg
  refine C125 (by simp) ?_
  unfold decideM
  generalize proM w g a.rule a.step b.rule b.step = x at h1 ⊢
  generalize proM w g b.rule b.step a.rule a.step = y at h2 ⊢
  rcases hg with rfl | rfl | rfl | rfl
  all_goals
    simp at h1 h2
    simp [A125]
    refine CallX.pure (by simpa using reasons_c) (by simp) (by simp) ?_
    try simp 
    refine CallX.pure (by simpa using h1) (by simp) (by simp) ?_
    try simp 
    refine CondK.intro (fun h3 => ?_) (fun h3 => ?_)
    · try simp at h3
      simp [h3]
    · try simp at h3
      try simp 
      refine CallX.pure (by simpa using h2) (by simp) (by simp) ?_
      try simp 
      refine CondK.intro (fun h4 => ?_) (fun h4 => ?_)
      · try simp at h4
        simp [h3, h4]
      · try simp at h4
        simp [h3, h4]
theorem decideM_cases (w : List Int) (g : Int) (ra : Rule) (a : Step) (rb : Rule) (b : Step) : decideM w g ra a rb b = 1 ∨ decideM w g ra a rb b = -1 ∨ decideM w g ra a rb b = 0 := by
  unfold decideM; split
  · simp
  · split <;> simp
def gOK (gs : List Int) : Prop := ∀ g ∈ gs, g = 1 ∨ g = 2 ∨ g = 3 ∨ g = 4
theorem beats_c (w gs : List Int) (a b : Cand) (hw : w.length ≤ 1000) (hg : gOK gs) (hgl : gs.length ≤ 1000) (ha : a.small) (hb : b.small) :
    CallP Try.prog 123 [ints w, ints gs, candV a, candV b] (iv (beatsM w gs a.rule a.step b.rule b.step)) := by
  refine C123 (by simp) ?_
  generalize hR : beatsM w gs a.rule a.step b.rule b.step = R
  simp [A123]
  refine LoopK.by (fun i : Nat => ⟨[(14, iv i), (13, iv gs.length), (12, ints gs), (0, ints w), (6, .pt 6 1 0 0), (7, .pt 7 1 0 0)], [(6, some ⟨6, [candV a], 1, true⟩), (7, some ⟨6, [candV b], 1, true⟩)]⟩) (fun i => gs.length - i)
    (fun i => i ≤ gs.length ∧ beatsM w (gs.drop i) a.rule a.step b.rule b.step = R) 0 (by simpa using hR) (by simp) ?_
  intro i Q' ⟨hi, hc⟩ hq he hr
  try simp 
  refine CondK.intro (fun h1 => ?_) (fun h1 => ?_)
  · simp at h1
    rw [drop_cons gs i h1, beatsM] at hc
    have hgi := hg (el gs i) (by rw [el_eq gs i h1]; exact List.getElem_mem h1)
    have hd := decideM_cases w (el gs i) a.rule a.step b.rule b.step
    simp [h1]
    try simp 
    repeat' (first
      | (refine CallX.pure (decide_c w (el gs i) a b hw ha hb hgi) (by simp) (by simp) ?_; try simp )
      | (refine CallK.intro (decide_c w (el gs i) a b hw ha hb hgi) (by simp) (by simp) ?_; try simp )
      | (refine CallG.intro (fun _ => decide_c w (el gs i) a b hw ha hb hgi) (by simp) (by simp) ?_; try simp )
      | ((with_reducible refine PreK.intro ?_ ?_); (next => (first | omega | (intros; first | omega | (refine ⟨by omega, ?_⟩; repeat (first | assumption | constructor)) | assumption))); intro _; try simp )
      | fail)
    refine CondK.intro (fun h2 => ?_) (fun h2 => ?_)
    · simp at h2
      simp [h2] at hc
      try simp 
      refine PreK.intro (by rcases hd with e | e | e <;> rw [e] <;> omega) fun _ => ?_
      try simp 
      apply hr
      simp [hc]
    · simp at h2
      simp [h2] at hc
      try simp 
      repeat' (first
        | ((with_reducible refine PreK.intro ?_ ?_); (next => (first | omega | (intros; first | omega | (refine ⟨by omega, ?_⟩; repeat (first | assumption | constructor)) | assumption))); intro _; try simp )
        | fail)
      exact hq (i + 1) _ ⟨by omega, hc⟩ (by omega) (by simp)
  · simp at h1
    rw [List.drop_eq_nil_of_le (by omega)] at hc
    simp [beatsM] at hc
    try simp 
    apply he
    simp [hc]
end Go.Proofs.Ytaooenmkofjafaa
end

section
/- Contracts: who wins. -/
namespace Go.Proofs.Ytaooenmkofjafaa
open Go.Abs Go
set_option maxRecDepth 20000
set_option maxHeartbeats 2000000
attribute [local irreducible] PreK CondK CallK CallG CallX LoopK
attribute [local simp] avsEq avEq akind teq vkind vEq

/-- A step with its rule in a system, as the program holds it. -/
def candS (s : List Rule) (x : Step) : AV := candV ⟨x, el s x.rule.toNat⟩
theorem candS_eq (s : List Rule) (x : Step) : candS s x = .agg [iv x.rule, iv x.place, iv (el s x.rule.toNat).frm, ints (el s x.rule.toNat).to, ints (el s x.rule.toNat).left, ints (el s x.rule.toNat).right] := rfl
@[simp] theorem nth_cand (s : List Rule) (l : List Step) (k : Nat) (h : k < l.length) : nth (l.map (candS s)) k = candV ⟨el l k, el s (el l k).rule.toNat⟩ := nth_map (candS s) l k h
@[simp] def candsV (s : List Rule) (l : List Step) : AV := .seq 6 (l.map (candS s)) false
def stepOK (s : List Rule) (x : Step) : Prop := 0 ≤ x.rule ∧ x.rule < s.length ∧ 0 ≤ x.place ∧ x.place ≤ 8
theorem stepOK.small {s : List Rule} {x : Step} (h : stepOK s x) (hs : Sys.small s) : Cand.small ⟨x, el s x.rule.toNat⟩ := ⟨hs.el (by have := h.1; have := h.2.1; omega), h.2.2.1, by have := h.2.2.2; simp only; omega⟩
theorem movesR_ok {s : List Rule} {w : List Int} {r : Rule} {k : Nat} (hk : k < s.length) (hw : w.length ≤ 8) : ∀ (n i : Nat), i + n ≤ w.length + 1 → ∀ m ∈ movesR r w k i n, stepOK s m.step
  | 0, i, _, m, hm => by simp [movesR] at hm
  | n + 1, i, hi, m, hm => by
    rw [movesR, List.mem_append] at hm
    rcases hm with hm | hm
    · unfold moveAt at hm
      split at hm
      · simp only [List.mem_cons, List.not_mem_nil, or_false] at hm
        subst hm
        exact ⟨by simp, by simp; omega, by simp, by simp; omega⟩
      · cases hm
    · exact movesR_ok hk hw n (i + 1) (by omega) m hm
theorem movesF_ok {s : List Rule} {w : List Int} (hw : w.length ≤ 8) : ∀ (l : List Rule) (k : Nat), k + l.length ≤ s.length → ∀ m ∈ movesF w k l, stepOK s m.step
  | [], k, _, m, hm => by simp [movesF] at hm
  | r :: l, k, hk, m, hm => by
    rw [movesF, List.mem_append] at hm
    simp only [List.length_cons] at hk
    rcases hm with hm | hm
    · exact movesR_ok (by omega) hw _ 0 (by omega) m hm
    · exact movesF_ok hw l (k + 1) (by omega) m hm
theorem stepsM_ok {s : List Rule} {w : List Int} : ∀ x ∈ stepsM s w, stepOK s x := by
  intro x hx
  unfold stepsM at hx
  by_cases h : swErr s w = 0
  · simp only [h, ne_eq, not_true, if_false, List.mem_map] at hx
    obtain ⟨m, hm, rfl⟩ := hx
    exact movesF_ok (wordErr_zero (swErr_zero h).2).1 s 0 (by omega) m hm
  · simp [h] at hx
theorem stepsM_len {s : List Rule} {w : List Int} : (stepsM s w).length ≤ 54 := by
  unfold stepsM
  by_cases h : swErr s w = 0
  · have := movesM_len (swErr_zero h).1 (swErr_zero h).2
    simpa [h] using this
  · simp [h]
theorem candidates_c (s : List Rule) (w : List Int) (h : Sys.small s) (hw : w.length ≤ 1000) : CallP Try.prog 113 [rulesV s, ints w] (candsV s (stepsM s w)) := by
  refine C113 (by simp) ?_
  have hok : ∀ x ∈ stepsM s w, stepOK s x := stepsM_ok
  have hlen : (stepsM s w).length ≤ 54 := stepsM_len
  have hst := Steps_c s w h hw
  simp [A113]
  generalize stepsM s w = R at hst hok hlen
  try simp 
  repeat' (first
    | (refine CallX.pure (hst) (by simp) (by simp) ?_; try simp )
    | (refine CallK.intro (hst) (by simp) (by simp) ?_; try simp )
    | (refine CallG.intro (fun _ => hst) (by simp) (by simp) ?_; try simp )
    | ((with_reducible refine PreK.intro ?_ ?_); (next => (first | omega | (intros; first | omega | (refine ⟨by omega, ?_⟩; repeat (first | assumption | constructor)) | assumption))); intro _; try simp )
    | fail)
  refine LoopK.by (ι := Nat × Nat × List Step) (fun i => ⟨[(18, iv i.1), (17, iv R.length), (16, stepsV R), (0, rulesV s), (5, .sl 5 i.2.1 0 i.2.2.length)], [(5, some ⟨6, i.2.2.map (candS s), i.2.1, false⟩)]⟩) (fun i => R.length - i.1)
    (fun i => i.1 ≤ R.length ∧ i.2.2.length ≤ i.1 ∧ i.2.2 ++ R.drop i.1 = R) (0, 1, []) (by simp) (by simp) ?_
  intro ⟨i, ver, acc⟩ Q' ⟨hi, ha, hc⟩ hq he hr
  dsimp only at hi ha hc
  try simp 
  refine CondK.intro (fun h4 => ?_) (fun h4 => ?_)
  · simp at h4
    obtain ⟨o1, o2, o3, o4⟩ := hok (el R i) (by rw [el_eq R i h4]; exact List.getElem_mem h4)
    rw [drop_cons R i h4] at hc
    have o5 : (el R i).rule.toNat < s.length := by omega
    simp [h4]
    try simp [o5]
    repeat' (first
      | ((with_reducible refine PreK.intro ?_ ?_); (next => (first | omega | (intros; first | omega | (refine ⟨by omega, ?_⟩; repeat (first | assumption | constructor)) | assumption))); intro _; try simp [o5])
      | fail)
    exact hq (i + 1, ver + 1, acc ++ [el R i]) _ ⟨by dsimp only; omega, by simp; omega, by simpa using hc⟩ (by dsimp only; omega) (by simp [candS_eq])
  · simp at h4
    rw [List.drop_eq_nil_of_le (by omega)] at hc
    simp at hc
    try simp 
    apply he
    simp [hc]
end Go.Proofs.Ytaooenmkofjafaa
end

section
/- Contracts: the champion and the choice. -/
namespace Go.Proofs.Ytaooenmkofjafaa
open Go.Abs Go
set_option maxRecDepth 20000
set_option maxHeartbeats 2000000
attribute [local irreducible] PreK CondK CallK CallG CallX LoopK
attribute [local simp] avsEq avEq akind teq vkind vEq

/-- The first place at which p holds, or -1. -/
def idxG {α : Type} (p : α → Bool) : Nat → List α → Int
  | _, [] => -1
  | k, x :: r => if p x then k else idxG p (k + 1) r
theorem idxG_any {α : Type} (p : α → Bool) : ∀ (l : List α) (k : Nat), decide (0 ≤ idxG p k l) = l.any p
  | [], k => by simp [idxG]
  | x :: r, k => by
    by_cases h : p x = true
    · simp [idxG, h]
    · simp [idxG, h, idxG_any p r (k + 1)]
theorem idxG_none {α : Type} (p : α → Bool) : ∀ (l : List α) (k : Nat), (∀ x ∈ l, p x = false) → idxG p k l = -1
  | [], _, _ => rfl
  | x :: r, k, h => by simp [idxG, h x (by simp), idxG_none p r (k + 1) (fun y hy => h y (by simp [hy]))]
theorem idxG_find {α : Type} [Inhabited α] (p : α → Bool) : ∀ (l : List α) (k : Nat) (a : α), l.find? p = some a → ∃ i, i < l.length ∧ idxG p k l = (k + i : Nat) ∧ el l i = a
  | [], _, _, h => by cases h
  | x :: r, k, a, h => by
    by_cases hx : p x = true
    · simp [List.find?, hx] at h
      exact ⟨0, by simp, by simp [idxG, hx], by simp [el, h]⟩
    · have hx' : p x = false := by simpa using hx
      simp only [List.find?, hx'] at h
      obtain ⟨i, h1, h2, h3⟩ := idxG_find p r (k + 1) a h
      refine ⟨i + 1, by simp; omega, ?_, ?_⟩
      · simp only [idxG, hx', Bool.false_eq_true, if_false, h2]; omega
      · rw [← h3]; simp [el]
theorem cIndexFunc_c (s : List Rule) (l : List Step) (hl : l.length ≤ 1000) (f : FuncId) (cap : List AV) (p : Step → Bool) (hp : ∀ x ∈ l, CallP Try.prog f (candS s x :: cap) (bv (p x))) (h1 : ∀ m, snapL m cap = cap) (h2 : AV.refsL cap = []) (h3 : ∀ m, snapOKL m cap) :
    CallP Try.prog 184 [candsV s l, .fn f [] cap] (iv (idxG p 0 l)) := by
  refine C184 (by simp) ?_
  generalize hR : idxG p 0 l = R
  simp [A184]
  refine LoopK.by (fun i : Nat => ⟨[(8, iv i), (7, iv l.length), (0, candsV s l), (1, .fn f [] cap)], []⟩) (fun i => l.length - i) (fun i => i ≤ l.length ∧ idxG p i (l.drop i) = R) 0 (by simpa using hR) (by simp [h2]) ?_
  intro i Q' ⟨hi, hc⟩ hq he hr
  try simp 
  refine CondK.intro (fun h => ?_) (fun h => ?_)
  · simp at h
    have hpi := hp (el l i) (by rw [el_eq l i h]; exact List.getElem_mem h)
    rw [candS_eq] at hpi
    rw [drop_cons l i h] at hc
    simp [h]
    refine CallX.pure (by simpa [h1] using hpi) (by simp [h3]) (by simp) ?_
    try simp 
    refine CondK.intro (fun h4 => ?_) (fun h4 => ?_)
    · simp [idxG, h4] at hc
      try simp 
      apply hr
      simp [hc]
    · simp [idxG, h4] at hc
      try simp 
      repeat' (first
        | ((with_reducible refine PreK.intro ?_ ?_); (next => (first | omega | (intros; first | omega | (refine ⟨by omega, ?_⟩; repeat (first | assumption | constructor)) | assumption))); intro _; try simp )
        | fail)
      exact hq (i + 1) _ ⟨by omega, hc⟩ (by omega) (by simp [h2])
  · simp at h
    rw [List.drop_eq_nil_of_le (by omega)] at hc
    simp [idxG] at hc
    try simp 
    apply he
    simp [hc]
theorem cContainsFunc_c (s : List Rule) (l : List Step) (hl : l.length ≤ 1000) (f : FuncId) (cap : List AV) (p : Step → Bool) (hp : ∀ x ∈ l, CallP Try.prog f (candS s x :: cap) (bv (p x))) (h1 : ∀ m, snapL m cap = cap) (h2 : AV.refsL cap = []) (h3 : ∀ m, snapOKL m cap) :
    CallP Try.prog 186 [candsV s l, .fn f [] cap] (bv (l.any p)) := by
  refine C186 (by simp) ?_
  rw [← idxG_any p l 0]
  simp [A186]
  refine CallX.pure (by simpa [h1] using cIndexFunc_c s l hl f cap p hp h1 h2 h3) (by simp [h3]) (by simp) ?_
  try simp 
theorem step_eq (a b : Step) : (a = b) ↔ (a.rule = b.rule ∧ a.place = b.place) := by
  cases a; cases b; simp
theorem two1_c (c : Cand) (x : Step) : CallP Try.prog 187 [candV c, .ipt (stepV x) 0] (bv (decide (c.step = x))) := by
  refine C187 (by simp) ?_
  simp [A187]
  rw [Bool.eq_iff_iff]; simp [step_eq]
theorem choice1_c (c b : Cand) : CallP Try.prog 185 [candV c, .ipt (candV b) 0] (bv (decide (c.step ≠ b.step))) := by
  refine C185 (by simp) ?_
  simp [A185]
  rw [Bool.eq_iff_iff]; simp [step_eq]
end Go.Proofs.Ytaooenmkofjafaa
end

section
/- Contracts: the champion, the choice, the derivation. -/
namespace Go.Proofs.Ytaooenmkofjafaa
open Go.Abs Go
set_option maxRecDepth 20000
set_option maxHeartbeats 2000000
attribute [local irreducible] PreK CondK CallK CallG CallX LoopK
attribute [local simp] avsEq avEq akind teq vkind vEq candS_eq

@[simp] def candZ : AV := .agg [iv 0, iv 0, iv 0, .seq 1 [] false, .seq 1 [] false, .seq 1 [] false]
@[simp] def candZ0 : AV := .agg [iv 0, iv 0, iv 0, .seq 1 [] true, .seq 1 [] true, .seq 1 [] true]
theorem topOf_drop (s : List Rule) (w gs : List Int) (a : Step) (l : List Step) (i : Nat) (h : i < l.length) :
    topOf s w gs (l.drop i) a = ((decide (el l i = a) || decide (0 < beatsS s w gs a (el l i))) && topOf s w gs (l.drop (i + 1)) a) := by
  unfold topOf; rw [drop_cons l i h, List.all_cons]
theorem champ_drop (s : List Rule) (w gs : List Int) (a : Step) (l : List Step) (i : Nat) (h : i < l.length) :
    champ s w gs a (l.drop i) = champ s w gs (if beatsS s w gs a (el l i) ≤ 0 then el l i else a) (l.drop (i + 1)) := by
  rw [drop_cons l i h, champ]
theorem champion_c (s : List Rule) (w gs : List Int) (x : Step) (xs : List Step) (hs : Sys.small s) (hw : w.length ≤ 1000) (hg : gOK gs) (hgl : gs.length ≤ 1000) (hl : xs.length ≤ 100) (hok : ∀ y ∈ x :: xs, stepOK s y) :
    CallP Try.prog 114 [ints w, ints gs, candsV s (x :: xs)]
      (.tup [if topOf s w gs (x :: xs) (champ s w gs x xs) then candS s (champ s w gs x xs) else candZ, bv (topOf s w gs (x :: xs) (champ s w gs x xs))]) := by
  refine C114 (by simp) ?_
  generalize hR : champ s w gs x xs = R
  simp [A114]
  try simp 
  repeat' (first
    | ((with_reducible refine PreK.intro ?_ ?_); (next => (first | omega | (intros; first | omega | (refine ⟨by omega, ?_⟩; repeat (first | assumption | constructor)) | assumption))); intro _; try simp )
    | fail)
  refine LoopK.by (ι := Nat × Step) (fun i => ⟨[(19, iv i.1), (18, iv xs.length), (17, candsV s xs), (0, ints w), (1, ints gs), (2, candsV s (x :: xs)), (6, .pt 6 1 0 0), (8, .pt 8 1 0 0)], [(8, some ⟨6, [candS s i.2], 1, true⟩), (6, some ⟨6, [candZ0], 1, true⟩)]⟩) (fun i => xs.length - i.1)
    (fun i => i.1 ≤ xs.length ∧ stepOK s i.2 ∧ champ s w gs i.2 (xs.drop i.1) = R) (0, x) (by simp; exact ⟨hok x (by simp), hR⟩) (by simp) ?_
  intro ⟨i, b⟩ Q' ⟨hi, hb, hc⟩ hq he hr
  dsimp only at hi hb hc
  try simp 
  refine CondK.intro (fun h1 => ?_) (fun h1 => ?_)
  · simp at h1
    have hxi := hok (el xs i) (by rw [el_eq xs i h1]; simp)
    rw [champ_drop s w gs b xs i h1] at hc
    have hbt := beats_c w gs ⟨b, el s b.rule.toNat⟩ ⟨el xs i, el s (el xs i).rule.toNat⟩ hw hg hgl (hb.small hs) (hxi.small hs)
    have hbe : beatsM w gs (el s b.rule.toNat) b (el s (el xs i).rule.toNat) (el xs i) = beatsS s w gs b (el xs i) := rfl
    dsimp only at hbt
    rw [hbe] at hbt
    simp [h1]
    try simp 
    repeat' (first
      | (refine CallX.pure (hbt) (by simp) (by simp) ?_; try simp )
      | (refine CallK.intro (hbt) (by simp) (by simp) ?_; try simp )
      | (refine CallG.intro (fun _ => hbt) (by simp) (by simp) ?_; try simp )
      | ((with_reducible refine PreK.intro ?_ ?_); (next => (first | omega | (intros; first | omega | (refine ⟨by omega, ?_⟩; repeat (first | assumption | constructor)) | assumption))); intro _; try simp )
      | fail)
    refine CondK.intro (fun h2 => ?_) (fun h2 => ?_)
    · simp at h2
      rw [if_pos h2] at hc
      try simp 
      repeat' (first
        | ((with_reducible refine PreK.intro ?_ ?_); (next => (first | omega | (intros; first | omega | (refine ⟨by omega, ?_⟩; repeat (first | assumption | constructor)) | assumption))); intro _; try simp )
        | fail)
      exact hq (i + 1, el xs i) _ ⟨by dsimp only; omega, hxi, hc⟩ (by dsimp only; omega) (by simp)
    · simp at h2
      rw [if_neg (by omega)] at hc
      try simp 
      repeat' (first
        | ((with_reducible refine PreK.intro ?_ ?_); (next => (first | omega | (intros; first | omega | (refine ⟨by omega, ?_⟩; repeat (first | assumption | constructor)) | assumption))); intro _; try simp )
        | fail)
      exact hq (i + 1, b) _ ⟨by dsimp only; omega, hb, hc⟩ (by dsimp only; omega) (by simp)
  · simp at h1
    rw [List.drop_eq_nil_of_le (by omega), champ] at hc
    subst hc
    try simp 
    apply he
    try simp 
    clear hq he hr
    generalize hR2 : topOf s w gs (x :: xs) b = R2
    have hall := hok
    generalize hl2 : x :: xs = l at hR2 hall
    have hll : l.length ≤ 101 := by rw [← hl2]; simp; omega
    refine LoopK.by (fun i : Nat => ⟨[(33, iv i), (32, iv l.length), (31, candsV s l), (0, ints w), (1, ints gs), (6, .pt 6 1 0 0), (8, .pt 8 1 0 0)], [(8, some ⟨6, [candS s b], 1, true⟩), (6, some ⟨6, [candZ0], 1, true⟩)]⟩) (fun i => l.length - i)
      (fun i => i ≤ l.length ∧ topOf s w gs (l.drop i) b = R2) 0 (by simpa using hR2) (by rw [← hl2]; simp) ?_
    intro j Q'' ⟨hj, hc⟩ hq he hr
    try simp 
    refine CondK.intro (fun h3 => ?_) (fun h3 => ?_)
    · simp at h3
      have hxi := hall (el l j) (by rw [el_eq l j h3]; simp)
      rw [topOf_drop s w gs b l j h3] at hc
      have hbt := beats_c w gs ⟨b, el s b.rule.toNat⟩ ⟨el l j, el s (el l j).rule.toNat⟩ hw hg hgl (hb.small hs) (hxi.small hs)
      have hbe : beatsM w gs (el s b.rule.toNat) b (el s (el l j).rule.toNat) (el l j) = beatsS s w gs b (el l j) := rfl
      dsimp only at hbt
      rw [hbe] at hbt
      simp [h3]
      try simp 
      repeat' (first
        | (refine CallX.pure (hbt) (by simp) (by simp) ?_; try simp )
        | (refine CallK.intro (hbt) (by simp) (by simp) ?_; try simp )
        | (refine CallG.intro (fun _ => hbt) (by simp) (by simp) ?_; try simp )
        | ((with_reducible refine PreK.intro ?_ ?_); (next => (first | omega | (intros; first | omega | (refine ⟨by omega, ?_⟩; repeat (first | assumption | constructor)) | assumption))); intro _; try simp )
        | fail)
      have hcond : ((!decide ((el l j).rule = b.rule) || !decide ((el l j).place = b.place)) && decide (beatsS s w gs b (el l j) ≤ 0)) = !(decide (el l j = b) || decide (0 < beatsS s w gs b (el l j))) := by
        have e1 : decide (el l j = b) = (decide ((el l j).rule = b.rule) && decide ((el l j).place = b.place)) := by rw [Bool.eq_iff_iff]; simp [step_eq]
        have e2 : decide (beatsS s w gs b (el l j) ≤ 0) = !decide (0 < beatsS s w gs b (el l j)) := by rw [Bool.eq_iff_iff]; simp
        rw [e1, e2]
        cases decide ((el l j).rule = b.rule) <;> cases decide ((el l j).place = b.place) <;> cases decide (0 < beatsS s w gs b (el l j)) <;> rfl
      rw [hcond]
      generalize (decide (el l j = b) || decide (0 < beatsS s w gs b (el l j))) = z at hc
      refine CondK.intro (fun h4 => ?_) (fun h4 => ?_)
      · have : z = false := by simpa using h4
        subst this
        simp at hc
        try simp 
        repeat' (first
          | ((with_reducible refine PreK.intro ?_ ?_); (next => (first | omega | (intros; first | omega | (refine ⟨by omega, ?_⟩; repeat (first | assumption | constructor)) | assumption))); intro _; try simp )
          | fail)
        apply hr
        simp [hc]
      · have : z = true := by simpa using h4
        subst this
        simp at hc
        try simp 
        repeat' (first
          | ((with_reducible refine PreK.intro ?_ ?_); (next => (first | omega | (intros; first | omega | (refine ⟨by omega, ?_⟩; repeat (first | assumption | constructor)) | assumption))); intro _; try simp )
          | fail)
        exact hq (j + 1) _ ⟨by omega, hc⟩ (by omega) (by simp)
    · simp at h3
      rw [List.drop_eq_nil_of_le (by omega)] at hc
      have hc2 : R2 = true := by rw [← hc]; rfl
      try simp 
      apply he
      simp [hc2]
theorem apply_c (s : List Rule) (w : List Int) (c : Choice) (hs : Sys.small s) (hw : w.length ≤ 1000) (h0 : 0 ≤ c.rule) (h1 : c.rule < s.length) : CallP Try.prog 117 [rulesV s, ints w, choiceV c] (ints (nextW s w c)) := by
  refine C117 (by simp) ?_
  have o5 : c.rule.toNat < s.length := by omega
  simp [A117]
  try simp [o5]
  repeat' (first
    | (refine CallX.pure (Apply_c (el s c.rule.toNat) w c.place (hs.el o5) hw) (by simp) (by simp) ?_; try simp [o5])
    | (refine CallK.intro (Apply_c (el s c.rule.toNat) w c.place (hs.el o5) hw) (by simp) (by simp) ?_; try simp [o5])
    | (refine CallG.intro (fun _ => Apply_c (el s c.rule.toNat) w c.place (hs.el o5) hw) (by simp) (by simp) ?_; try simp [o5])
    | ((with_reducible refine PreK.intro ?_ ?_); (next => (first | omega | (intros; first | omega | (refine ⟨by omega, ?_⟩; repeat (first | assumption | constructor)) | assumption))); intro _; try simp [o5])
    | fail)
  simp [nextW]
end Go.Proofs.Ytaooenmkofjafaa
end

section
/- Contracts: the choice and the derivation. -/
namespace Go.Proofs.Ytaooenmkofjafaa
open Go.Abs Go
set_option maxRecDepth 20000
set_option maxHeartbeats 2000000
attribute [local irreducible] PreK CondK CallK CallG CallX LoopK
attribute [local simp] avsEq avEq akind teq vkind vEq candS_eq

theorem stepsM_sys {s : List Rule} {w : List Int} (h : stepsM s w ≠ []) : swErr s w = 0 := by
  unfold stepsM at h
  by_cases h1 : swErr s w = 0
  · exact h1
  · simp [h1] at h
theorem beatsM_bound (w : List Int) : ∀ (gs : List Int) (ra : Rule) (a : Step) (rb : Rule) (b : Step), gOK gs → -4 ≤ beatsM w gs ra a rb b ∧ beatsM w gs ra a rb b ≤ 4
  | [], _, _, _, _, _ => by simp [beatsM]
  | g :: gs, ra, a, rb, b, h => by
    have ih := beatsM_bound w gs ra a rb b (fun x hx => h x (by simp [hx]))
    have hg := h g (by simp)
    have hd := decideM_cases w g ra a rb b
    unfold beatsM
    split
    · rcases hg with rfl | rfl | rfl | rfl <;> rcases hd with e | e | e <;> rw [e] <;> omega
    · exact ih
theorem choice_c (s : List Rule) (w gs : List Int) (hs : Sys.small s) (hw : w.length ≤ 1000) (hg : gOK gs) (hgl : gs.length ≤ 1000) :
    CallP Try.prog 111 [rulesV s, ints w, ints gs] (.tup [choiceV ((choiceM s w gs).getD ⟨0, 0, 0⟩), bv (choiceM s w gs).isSome]) := by
  refine C111 (by simp) ?_
  have hcd := candidates_c s w hs hw
  have hok : ∀ x ∈ stepsM s w, stepOK s x := stepsM_ok
  have hlen : (stepsM s w).length ≤ 54 := stepsM_len
  generalize hR : choiceM s w gs = R
  unfold choiceM at hR
  simp [A111]
  generalize stepsM s w = l at hcd hok hlen hR
  try simp 
  repeat' (first
    | (refine CallX.pure (hcd) (by simp) (by simp) ?_; try simp )
    | (refine CallK.intro (hcd) (by simp) (by simp) ?_; try simp )
    | (refine CallG.intro (fun _ => hcd) (by simp) (by simp) ?_; try simp )
    | ((with_reducible refine PreK.intro ?_ ?_); (next => (first | omega | (intros; first | omega | (refine ⟨by omega, ?_⟩; repeat (first | assumption | constructor)) | assumption))); intro _; try simp )
    | fail)
  match l with
  | [] =>
    dsimp only at hR
    subst hR
    try simp 
    repeat' (first
      | ((with_reducible refine PreK.intro ?_ ?_); (next => (first | omega | (intros; first | omega | (refine ⟨by omega, ?_⟩; repeat (first | assumption | constructor)) | assumption))); intro _; try simp )
      | fail)
    refine CondK.intro (fun h1 => ?_) (fun h1 => ?_)
    · try simp 
      repeat' (first
        | ((with_reducible refine PreK.intro ?_ ?_); (next => (first | omega | (intros; first | omega | (refine ⟨by omega, ?_⟩; repeat (first | assumption | constructor)) | assumption))); intro _; try simp )
        | fail)
    · simp at h1
  | x :: xs =>
    have hch := champion_c s w gs x xs hs hw hg hgl (by simp at hlen; omega) hok
    dsimp only at hR
    rw [bestM_champ] at hR
    have hmem := champ_mem s w gs xs x
    generalize champ s w gs x xs = b at hR hch hmem
    have hbok := hok b hmem
    have hcm : ∀ y ∈ x :: xs, CallP Try.prog 185 (candS s y :: [.ipt (candS s b) 0]) (bv (decide (y ≠ b))) := fun y _ => choice1_c ⟨y, el s y.rule.toNat⟩ ⟨b, el s b.rule.toNat⟩
    have hidx := cIndexFunc_c s (x :: xs) (by omega) 185 [.ipt (candS s b) 0] (fun y => decide (y ≠ b)) hcm (by intro m; simp) (by simp) (by intro m; simp)
    by_cases ht : topOf s w gs (x :: xs) b = true
    · rw [if_pos ht] at hR
      rw [if_pos ht, ht] at hch
      dsimp only at hR
      try simp 
      repeat' (first
        | ((with_reducible refine PreK.intro ?_ ?_); (next => (first | omega | (intros; first | omega | (refine ⟨by omega, ?_⟩; repeat (first | assumption | constructor)) | assumption))); intro _; try simp )
        | fail)
      refine CondK.intro (fun h1 => ?_) (fun h1 => ?_)
      · simp at h1
      · simp at h1
        try simp 
        repeat' (first
          | (refine CallX.pure (hch) (by simp) (by simp) ?_; try simp )
          | (refine CallK.intro (hch) (by simp) (by simp) ?_; try simp )
          | (refine CallG.intro (fun _ => hch) (by simp) (by simp) ?_; try simp )
          | ((with_reducible refine PreK.intro ?_ ?_); (next => (first | omega | (intros; first | omega | (refine ⟨by omega, ?_⟩; repeat (first | assumption | constructor)) | assumption))); intro _; try simp )
          | fail)
        refine CondK.intro (fun h2 => ?_) (fun h2 => ?_)
        · simp at h2
        · try simp 
          repeat' (first
            | (refine CallX.pure (hidx) (by simp) (by simp) ?_; try simp )
            | (refine CallK.intro (hidx) (by simp) (by simp) ?_; try simp )
            | (refine CallG.intro (fun _ => hidx) (by simp) (by simp) ?_; try simp )
            | ((with_reducible refine PreK.intro ?_ ?_); (next => (first | omega | (intros; first | omega | (refine ⟨by omega, ?_⟩; repeat (first | assumption | constructor)) | assumption))); intro _; try simp )
            | fail)
          generalize hl2 : x :: xs = l at hR hidx hok hcm
          have hll : l.length ≤ 54 := by rw [← hl2]; exact hlen
          have hp : (fun y => decide (y ≠ b)) = (fun y => !decide (y = b)) := by funext y; simp
          have hm2 : List.map (candS s) l = candS s x :: List.map (candS s) xs := by rw [← hl2]; rfl
          cases hf : l.find? (fun y => decide (y ≠ b)) with
          | none =>
            rw [hf] at hR
            dsimp only at hR
            have hno : idxG (fun y => decide (y ≠ b)) 0 l = -1 := idxG_none _ l 0 (fun y hy => by simpa using List.find?_eq_none.1 hf y hy)
            rw [hp] at hno
            subst hR
            rw [hno]
            refine CondK.intro (fun h3 => ?_) (fun h3 => ?_)
            · simp at h3
            · try simp 
              repeat' (first
                | ((with_reducible refine PreK.intro ?_ ?_); (next => (first | omega | (intros; first | omega | (refine ⟨by omega, ?_⟩; repeat (first | assumption | constructor)) | assumption))); intro _; try simp )
                | fail)
          | some a =>
            rw [hf] at hR
            dsimp only at hR
            obtain ⟨i, hi1, hi2, hi3⟩ := idxG_find _ l 0 a hf
            have hnth2 := nth_cand s l i
            rw [hp] at hi2
            rw [hi3] at hnth2
            have hnth : nth (candS s x :: List.map (candS s) xs) i = candV ⟨a, el s a.rule.toNat⟩ := by rw [← hm2]; exact hnth2 hi1
            simp at hnth hi2
            have hai : stepOK s a := hok a (List.mem_of_find?_eq_some hf)
            have hlx : l.length = xs.length + 1 := by rw [← hl2]; simp
            rw [hi2]
            have hbt := beats_c w gs ⟨b, el s b.rule.toNat⟩ ⟨a, el s a.rule.toNat⟩ hw hg hgl (hbok.small hs) (hai.small hs)
            subst hR
            refine CondK.intro (fun h3 => ?_) (fun h3 => ?_)
            · try simp [hnth]
              repeat' (first
                | (refine CallX.pure (hbt) (by simp) (by simp) ?_; try simp [hnth])
                | (refine CallK.intro (hbt) (by simp) (by simp) ?_; try simp [hnth])
                | (refine CallG.intro (fun _ => hbt) (by simp) (by simp) ?_; try simp [hnth])
                | ((with_reducible refine PreK.intro ?_ ?_); (next => (first | omega | (intros; first | omega | (refine ⟨by omega, ?_⟩; repeat (first | assumption | constructor)) | assumption))); intro _; try simp [hnth])
                | fail)
              rfl
            · simp at h3
    · have ht' : topOf s w gs (x :: xs) b = false := by simpa using ht
      rw [if_neg ht] at hR
      rw [if_neg ht, ht'] at hch
      dsimp only at hR
      try simp 
      repeat' (first
        | ((with_reducible refine PreK.intro ?_ ?_); (next => (first | omega | (intros; first | omega | (refine ⟨by omega, ?_⟩; repeat (first | assumption | constructor)) | assumption))); intro _; try simp )
        | fail)
      refine CondK.intro (fun h1 => ?_) (fun h1 => ?_)
      · simp at h1
      · simp at h1
        try simp 
        repeat' (first
          | (refine CallX.pure (hch) (by simp) (by simp) ?_; try simp )
          | (refine CallK.intro (hch) (by simp) (by simp) ?_; try simp )
          | (refine CallG.intro (fun _ => hch) (by simp) (by simp) ?_; try simp )
          | ((with_reducible refine PreK.intro ?_ ?_); (next => (first | omega | (intros; first | omega | (refine ⟨by omega, ?_⟩; repeat (first | assumption | constructor)) | assumption))); intro _; try simp )
          | fail)
        refine CondK.intro (fun h2 => ?_) (fun h2 => ?_)
        · have hlast : stepOK s (el (x :: xs) xs.length) := hok _ (by rw [el_eq _ _ (by simp)]; exact List.getElem_mem _)
          have e1 : (((xs.length : Int) + 1) - 1).toNat = xs.length := by omega
          have e2 : xs.length < (x :: xs).length := by simp
          have hnth := nth_cand s (x :: xs) xs.length e2
          simp at hnth
          try simp [hnth]
          repeat' (first
            | ((with_reducible refine PreK.intro ?_ ?_); (next => (first | omega | (intros; first | omega | (refine ⟨by omega, ?_⟩; repeat (first | assumption | constructor)) | assumption))); intro _; try simp [hnth])
            | fail)
          subst hR
          simp
        · simp at h2
end Go.Proofs.Ytaooenmkofjafaa
end

section
/- Contracts: the derivation of the program. -/
namespace Go.Proofs.Ytaooenmkofjafaa
open Go.Abs Go
set_option maxRecDepth 20000
set_option maxHeartbeats 2000000
attribute [local irreducible] PreK CondK CallK CallG CallX LoopK
attribute [local simp] avsEq avEq akind teq vkind vEq

/-- A derivation of at most n choices, the word at its end, and whether it ends there. -/
def deriveR (s : List Rule) (gs : List Int) : Nat → List Int → List Choice × List Int × Bool
  | n, w => match choiceM s w gs with
    | none => ([], w, true)
    | some c => match n with
      | 0 => ([], w, false)
      | n + 1 => (c :: (deriveR s gs n (nextW s w c)).1, (deriveR s gs n (nextW s w c)).2.1, (deriveR s gs n (nextW s w c)).2.2)
theorem deriveR_none {s : List Rule} {gs w : List Int} {n : Nat} (h : choiceM s w gs = none) : deriveR s gs n w = ([], w, true) := by
  unfold deriveR; rw [h]
theorem deriveR_zero {s : List Rule} {gs w : List Int} {c : Choice} (h : choiceM s w gs = some c) : deriveR s gs 0 w = ([], w, false) := by
  unfold deriveR; rw [h]
theorem deriveR_succ {s : List Rule} {gs w : List Int} {c : Choice} {n : Nat} (h : choiceM s w gs = some c) :
    deriveR s gs (n + 1) w = (c :: (deriveR s gs n (nextW s w c)).1, (deriveR s gs n (nextW s w c)).2.1, (deriveR s gs n (nextW s w c)).2.2) := by
  rw [deriveR, h]
def DeriveR (s : List Rule) (w gs : List Int) : List Choice × List Int × Int :=
  if orderErr s w gs ≠ 0 then ([], [], orderErr s w gs) else if (deriveR s gs 60 w).2.2 then ((deriveR s gs 60 w).1, (deriveR s gs 60 w).2.1, 0) else ([], [], 3)
def choiceOK (s : List Rule) (c : Choice) : Prop := 0 ≤ c.rule ∧ c.rule < s.length ∧ 0 ≤ c.place ∧ c.place ≤ 8
theorem choiceM_ok {s : List Rule} {w gs : List Int} {c : Choice} (h : choiceM s w gs = some c) : choiceOK s c := by
  have hok : ∀ x ∈ stepsM s w, stepOK s x := stepsM_ok
  unfold choiceM at h
  generalize stepsM s w = l at hok h
  match l with
  | [] => simp at h
  | x :: xs =>
    dsimp only at h
    cases hb : bestM s w gs (x :: xs) with
    | none =>
      rw [hb] at h
      simp only [Option.some.injEq] at h
      subst h
      exact hok _ (by rw [el_eq _ _ (by simp)]; exact List.getElem_mem _)
    | some a =>
      rw [hb] at h
      simp only [Option.some.injEq] at h
      subst h
      exact hok a (List.mem_of_find?_eq_some hb)
theorem nextW_len (s : List Rule) (w : List Int) (c : Choice) : (nextW s w c).length ≤ 8 := applyM_len _ _ _
theorem derive_c (s : List Rule) (w gs : List Int) (hs : Sys.small s) (hw : w.length ≤ 1000) (hg : gOK gs) (hgl : gs.length ≤ 1000) :
    CallP Try.prog 108 [rulesV s, ints w, ints gs] (.tup [choicesV (if (deriveR s gs 60 w).2.2 then (deriveR s gs 60 w).1 else []), ints (if (deriveR s gs 60 w).2.2 then (deriveR s gs 60 w).2.1 else []), iv (if (deriveR s gs 60 w).2.2 then 0 else 3)]) := by
  refine C108 (by simp) ?_
  generalize hR : deriveR s gs 60 w = R
  obtain ⟨R1, R2, R3⟩ := R
  dsimp only
  simp [A108]
  try simp 
  repeat' (first
    | (refine CallX.pure ((clone_o w hw).toP) (by simp) (by simp) ?_; try simp )
    | (refine CallK.intro ((clone_o w hw).toP) (by simp) (by simp) ?_; try simp )
    | (refine CallG.intro (fun _ => (clone_o w hw).toP) (by simp) (by simp) ?_; try simp )
    | ((with_reducible refine PreK.intro ?_ ?_); (next => (first | omega | (intros; first | omega | (refine ⟨by omega, ?_⟩; repeat (first | assumption | constructor)) | assumption))); intro _; try simp )
    | fail)
  refine LoopK.by (ι := Nat × Nat × List Int × List Choice) (fun i => ⟨[(0, rulesV s), (1, ints i.2.2.1), (2, ints gs), (9, .sl 9 i.2.1 0 i.2.2.2.length)], [(9, some ⟨3, i.2.2.2.map choiceV, i.2.1, false⟩)]⟩) (fun i => i.1)
    (fun i => i.2.2.2.length + i.1 = 60 ∧ i.2.2.1.length ≤ 1000 ∧ i.2.2.2 ++ (deriveR s gs i.1 i.2.2.1).1 = R1 ∧ (deriveR s gs i.1 i.2.2.1).2 = (R2, R3)) (60, 1, w, []) (by simp [hR, hw]) (by simp) ?_
  intro ⟨n, ver, v, acc⟩ Q' ⟨hn, hv, hc1, hc2⟩ hq he hr
  dsimp only at hn hv hc1 hc2
  have hch := choice_c s v gs hs hv hg hgl
  cases hcm : choiceM s v gs with
  | none =>
    rw [hcm] at hch
    rw [deriveR_none hcm] at hc1 hc2
    simp at hc1 hc2 hch
    obtain ⟨rfl, rfl⟩ := hc2
    subst hc1
    try simp 
    repeat' (first
      | (refine CallX.pure (hch) (by simp) (by simp) ?_; try simp )
      | (refine CallK.intro (hch) (by simp) (by simp) ?_; try simp )
      | (refine CallG.intro (fun _ => hch) (by simp) (by simp) ?_; try simp )
      | ((with_reducible refine PreK.intro ?_ ?_); (next => (first | omega | (intros; first | omega | (refine ⟨by omega, ?_⟩; repeat (first | assumption | constructor)) | assumption))); intro _; try simp )
      | fail)
    refine CondK.intro (fun h1 => ?_) (fun h1 => ?_)
    · try simp 
      repeat' (first
        | ((with_reducible refine PreK.intro ?_ ?_); (next => (first | omega | (intros; first | omega | (refine ⟨by omega, ?_⟩; repeat (first | assumption | constructor)) | assumption))); intro _; try simp )
        | fail)
      apply hr
      simp
    · simp at h1
  | some c =>
    rw [hcm] at hch
    simp at hch
    have hco := choiceM_ok hcm
    have hap := apply_c s v c hs hv hco.1 hco.2.1
    have hnl := nextW_len s v c
    try simp 
    repeat' (first
      | (refine CallX.pure (hch) (by simp) (by simp) ?_; try simp )
      | (refine CallK.intro (hch) (by simp) (by simp) ?_; try simp )
      | (refine CallG.intro (fun _ => hch) (by simp) (by simp) ?_; try simp )
      | ((with_reducible refine PreK.intro ?_ ?_); (next => (first | omega | (intros; first | omega | (refine ⟨by omega, ?_⟩; repeat (first | assumption | constructor)) | assumption))); intro _; try simp )
      | fail)
    refine CondK.intro (fun h1 => ?_) (fun h1 => ?_)
    · simp at h1
    · try simp 
      repeat' (first
        | ((with_reducible refine PreK.intro ?_ ?_); (next => (first | omega | (intros; first | omega | (refine ⟨by omega, ?_⟩; repeat (first | assumption | constructor)) | assumption))); intro _; try simp )
        | fail)
      refine CondK.intro (fun h2 => ?_) (fun h2 => ?_)
      · have hn0 : n = 0 := by simp at h2; omega
        subst hn0
        rw [deriveR_zero hcm] at hc1 hc2
        simp at hc1 hc2
        obtain ⟨rfl, rfl⟩ := hc2
        try simp 
        repeat' (first
          | ((with_reducible refine PreK.intro ?_ ?_); (next => (first | omega | (intros; first | omega | (refine ⟨by omega, ?_⟩; repeat (first | assumption | constructor)) | assumption))); intro _; try simp )
          | fail)
        apply hr
        simp
      · have hn0 : acc.length ≠ 60 := by simp at h2; omega
        obtain ⟨m, rfl⟩ : ∃ m, n = m + 1 := ⟨n - 1, by omega⟩
        rw [deriveR_succ hcm] at hc1 hc2
        try simp 
        repeat' (first
          | (refine CallX.pure (hap) (by simp) (by simp) ?_; try simp )
          | (refine CallK.intro (hap) (by simp) (by simp) ?_; try simp )
          | (refine CallG.intro (fun _ => hap) (by simp) (by simp) ?_; try simp )
          | ((with_reducible refine PreK.intro ?_ ?_); (next => (first | omega | (intros; first | omega | (refine ⟨by omega, ?_⟩; repeat (first | assumption | constructor)) | assumption))); intro _; try simp )
          | fail)
        exact hq (m, ver + 1, nextW s v c, acc ++ [c]) _ ⟨by simp; omega, by dsimp only; omega, by simpa using hc1, by rw [Prod.ext_iff]; simpa using hc2⟩ (by dsimp only; omega) (by simp)
end Go.Proofs.Ytaooenmkofjafaa
end

section
/- Functions of the cut as the value layer reads them. (written by gen.py) -/
set_option maxRecDepth 20000
namespace Go.Proofs.Ytaooenmkofjafaa
open Go.Abs Go

/-- vyakarana order.Validate 1 -/
def A133 : ACode :=
  (.seq (.reg [] [⟨some 2, (.assign (.const (.bool false))), 4, none⟩])
    (.seq (.reg [] [⟨some 3, (.move (.tmp 0)), 3, none⟩,
      ⟨some 4, (.binOp .lss 3 (.tmp 3) (.const (.int .i64 1)) 3), 4, none⟩,
      ⟨some 5, (.move (.tmp 4)), 4, none⟩,
      ⟨some 6, (.move (.tmp 0)), 3, some (5, false)⟩,
      ⟨some 7, (.binOp .gtr 3 (.tmp 6) (.const (.int .i64 4)) 3), 4, some (5, false)⟩,
      ⟨some 8, (.pick (.tmp 5) (.const (.bool true)) (.tmp 7)), 4, none⟩,
      ⟨some 2, (.assign (.tmp 8)), 4, none⟩])
    .ret))
theorem C133 {args : List AV} {r : AV} (hn : args.length ≤ 9) (h : vc Try.prog T [] A133 (Fin T [(.tmp 2)] r) ⟨envOf 0 args, []⟩) : CallP Try.prog 133 args r :=
  callP_of tok mixed Try.func133 (by kernel_rfl) (by kernel_rfl) (by kernel_rfl : Try.f133.ntmps = 9) (by kernel_rfl : Try.f133.body.bind (strip 9 (fun _ => [])) = some A133) hn h
theorem CO133 {args : List AV} {sz : Nat} {els : List AV} (hn : args.length ≤ 9) (h : vc Try.prog T [] A133 (FinO [(.tmp 2)] sz els) ⟨envOf 0 args, []⟩) : CallO Try.prog 133 args sz els :=
  callO_of tok mixed Try.func133 (by kernel_rfl) (by kernel_rfl) (by kernel_rfl : Try.f133.ntmps = 9) (by kernel_rfl : Try.f133.body.bind (strip 9 (fun _ => [])) = some A133) hn h
theorem CL133 {pre suf : List AV} {sz : Nat} {els els' : List AV} {r : LRet} (hn : (pre ++ .sl lid 0 0 els.length :: suf).length ≤ 9) (h : vc Try.prog T [] A133 (FinL T [(.tmp 2)] sz r els') ⟨envOf 0 (pre ++ .sl lid 0 0 els.length :: suf), [(lid, some ⟨sz, els, 0, false⟩)]⟩) : CallL Try.prog 133 pre sz els suf r els' :=
  callL_of tok mixed Try.func133 (by kernel_rfl) (by kernel_rfl) (by kernel_rfl : Try.f133.ntmps = 9) (by kernel_rfl : Try.f133.body.bind (strip 9 (fun _ => [])) = some A133) hn h

/-- vyakarana vyakaranalaw04.OrderDerives -/
def A3 : ACode :=
  (.seq (.reg [] [⟨some 1, (.box 25 (.tmp 0)), 0, none⟩,
      ⟨some 2, (.assign (.const (.bool false))), 4, none⟩])
    (.seq (.seq (.reg [] [⟨some 11, (.load 25 (.tmp 1)), 25, none⟩,
      ⟨some 12, (.call ⟨(.value (.func 27)), #[(.tmp 11)], #[25]⟩), 4, none⟩])
    (.cond (.tmp 12)
    (.seq (.reg [] [⟨some 13, (.call ⟨(.value (.func 28)), #[], #[]⟩), 4, none⟩,
      ⟨some 2, (.assign (.tmp 13)), 4, none⟩])
    .ret)
    .skip))
    (.seq (.reg [] [⟨some 15, (.fieldAddr 25 (.tmp 1) 0), 0, none⟩,
      ⟨some 16, (.load 22 (.tmp 15)), 22, none⟩,
      ⟨some 17, (.fieldAddr 25 (.tmp 1) 1), 0, none⟩,
      ⟨some 18, (.load 23 (.tmp 17)), 23, none⟩,
      ⟨some 19, (.fieldAddr 25 (.tmp 1) 2), 0, none⟩,
      ⟨some 20, (.load 23 (.tmp 19)), 23, none⟩,
      ⟨some 21, (.call ⟨(.value (.func 29)), #[(.tmp 16), (.tmp 18), (.tmp 20)], #[22, 23, 23]⟩), 30, none⟩,
      ⟨some 14, (.move (.tmp 21)), 30, none⟩,
      ⟨some 22, (.extract (.tmp 14) 0), 28, none⟩,
      ⟨some 23, (.extract (.tmp 14) 1), 23, none⟩,
      ⟨some 24, (.extract (.tmp 14) 2), 29, none⟩,
      ⟨some 3, (.assign (.tmp 22)), 28, none⟩,
      ⟨some 4, (.assign (.tmp 23)), 23, none⟩,
      ⟨some 5, (.assign (.tmp 24)), 29, none⟩])
    (.seq (.reg [] [⟨some 26, (.fieldAddr 25 (.tmp 1) 0), 0, none⟩,
      ⟨some 27, (.load 22 (.tmp 26)), 22, none⟩,
      ⟨some 28, (.fieldAddr 25 (.tmp 1) 1), 0, none⟩,
      ⟨some 29, (.load 23 (.tmp 28)), 23, none⟩,
      ⟨some 30, (.fieldAddr 25 (.tmp 1) 2), 0, none⟩,
      ⟨some 31, (.load 23 (.tmp 30)), 23, none⟩,
      ⟨some 32, (.call ⟨(.value (.func 30)), #[(.tmp 27), (.tmp 29), (.tmp 31)], #[22, 23, 23]⟩), 30, none⟩,
      ⟨some 25, (.move (.tmp 32)), 30, none⟩,
      ⟨some 33, (.extract (.tmp 25) 0), 28, none⟩,
      ⟨some 34, (.extract (.tmp 25) 1), 23, none⟩,
      ⟨some 35, (.extract (.tmp 25) 2), 29, none⟩,
      ⟨some 6, (.assign (.tmp 33)), 28, none⟩,
      ⟨some 7, (.assign (.tmp 34)), 23, none⟩,
      ⟨some 8, (.assign (.tmp 35)), 29, none⟩])
    (.seq (.reg [] [⟨some 37, (.fieldAddr 25 (.tmp 1) 0), 0, none⟩,
      ⟨some 38, (.load 22 (.tmp 37)), 22, none⟩,
      ⟨some 39, (.fieldAddr 25 (.tmp 1) 1), 0, none⟩,
      ⟨some 40, (.load 23 (.tmp 39)), 23, none⟩,
      ⟨some 41, (.fieldAddr 25 (.tmp 1) 2), 0, none⟩,
      ⟨some 42, (.load 23 (.tmp 41)), 23, none⟩,
      ⟨some 43, (.call ⟨(.value (.func 31)), #[(.tmp 38), (.tmp 40), (.tmp 42)], #[22, 23, 23]⟩), 32, none⟩,
      ⟨some 36, (.move (.tmp 43)), 32, none⟩,
      ⟨some 44, (.extract (.tmp 36) 0), 23, none⟩,
      ⟨some 45, (.extract (.tmp 36) 1), 29, none⟩,
      ⟨some 9, (.assign (.tmp 44)), 23, none⟩,
      ⟨some 10, (.assign (.tmp 45)), 29, none⟩])
    (.seq (.reg [] [⟨some 46, (.move (.tmp 3)), 28, none⟩,
      ⟨some 47, (.move (.tmp 6)), 28, none⟩,
      ⟨some 48, (.call ⟨(.value (.func 32)), #[(.tmp 46), (.tmp 47)], #[28, 28]⟩), 4, none⟩,
      ⟨some 49, (.move (.tmp 48)), 4, none⟩,
      ⟨some 50, (.move (.tmp 4)), 23, some (49, true)⟩,
      ⟨some 51, (.move (.tmp 7)), 23, some (49, true)⟩,
      ⟨some 52, (.call ⟨(.value (.func 33)), #[(.tmp 50), (.tmp 51)], #[23, 23]⟩), 4, some (49, true)⟩,
      ⟨some 53, (.pick (.tmp 49) (.tmp 52) (.const (.bool false))), 4, none⟩,
      ⟨some 54, (.move (.tmp 53)), 4, none⟩,
      ⟨some 55, (.move (.tmp 5)), 29, some (54, true)⟩,
      ⟨some 56, (.move (.tmp 8)), 29, some (54, true)⟩,
      ⟨some 57, (.binOp .eql 29 (.tmp 55) (.tmp 56) 29), 4, some (54, true)⟩,
      ⟨some 58, (.pick (.tmp 54) (.tmp 57) (.const (.bool false))), 4, none⟩,
      ⟨some 59, (.move (.tmp 58)), 4, none⟩,
      ⟨some 60, (.move (.tmp 9)), 23, some (59, true)⟩,
      ⟨some 61, (.move (.tmp 7)), 23, some (59, true)⟩,
      ⟨some 62, (.call ⟨(.value (.func 33)), #[(.tmp 60), (.tmp 61)], #[23, 23]⟩), 4, some (59, true)⟩,
      ⟨some 63, (.pick (.tmp 59) (.tmp 62) (.const (.bool false))), 4, none⟩,
      ⟨some 64, (.move (.tmp 63)), 4, none⟩,
      ⟨some 65, (.move (.tmp 10)), 29, some (64, true)⟩,
      ⟨some 66, (.move (.tmp 8)), 29, some (64, true)⟩,
      ⟨some 67, (.binOp .eql 29 (.tmp 65) (.tmp 66) 29), 4, some (64, true)⟩,
      ⟨some 68, (.pick (.tmp 64) (.tmp 67) (.const (.bool false))), 4, none⟩,
      ⟨some 69, (.move (.tmp 68)), 4, none⟩,
      ⟨some 70, (.call ⟨(.value (.func 28)), #[], #[]⟩), 4, some (69, true)⟩,
      ⟨some 71, (.pick (.tmp 69) (.tmp 70) (.const (.bool false))), 4, none⟩,
      ⟨some 2, (.assign (.tmp 71)), 4, none⟩])
    .ret))))))
theorem C3 {args : List AV} {r : AV} (hn : args.length ≤ 72) (h : vc Try.prog T [] A3 (Fin T [(.tmp 2)] r) ⟨envOf 0 args, []⟩) : CallP Try.prog 3 args r :=
  callP_of tok mixed Try.func3 (by kernel_rfl) (by kernel_rfl) (by kernel_rfl : Try.f3.ntmps = 72) (by kernel_rfl : Try.f3.body.bind (strip 72 (fun _ => [])) = some A3) hn h
theorem CO3 {args : List AV} {sz : Nat} {els : List AV} (hn : args.length ≤ 72) (h : vc Try.prog T [] A3 (FinO [(.tmp 2)] sz els) ⟨envOf 0 args, []⟩) : CallO Try.prog 3 args sz els :=
  callO_of tok mixed Try.func3 (by kernel_rfl) (by kernel_rfl) (by kernel_rfl : Try.f3.ntmps = 72) (by kernel_rfl : Try.f3.body.bind (strip 72 (fun _ => [])) = some A3) hn h
theorem CL3 {pre suf : List AV} {sz : Nat} {els els' : List AV} {r : LRet} (hn : (pre ++ .sl lid 0 0 els.length :: suf).length ≤ 72) (h : vc Try.prog T [] A3 (FinL T [(.tmp 2)] sz r els') ⟨envOf 0 (pre ++ .sl lid 0 0 els.length :: suf), [(lid, some ⟨sz, els, 0, false⟩)]⟩) : CallL Try.prog 3 pre sz els suf r els' :=
  callL_of tok mixed Try.func3 (by kernel_rfl) (by kernel_rfl) (by kernel_rfl : Try.f3.ntmps = 72) (by kernel_rfl : Try.f3.body.bind (strip 72 (fun _ => [])) = some A3) hn h


end Go.Proofs.Ytaooenmkofjafaa
end

section
/- Contracts: order.Derive and what it checks. -/
namespace Go.Proofs.Ytaooenmkofjafaa
open Go.Abs Go
set_option maxRecDepth 20000
set_option maxHeartbeats 2000000
attribute [local irreducible] PreK CondK CallK CallG CallX LoopK
attribute [local simp] avsEq avEq akind teq vkind vEq

theorem gbad_c (g : Int) : CallP Try.prog 133 [iv g] (bv (gBad g)) := by
  refine C133 (by simp) ?_
  simp [A133]
  try simp [gBad]
theorem gValidate_c (g : List Int) (hl : g.length ≤ 1000) : CallP Try.prog 52 [ints g] (iv (gErr g)) := by
  refine C52 (by simp) ?_
  generalize hR : gErr g = R
  unfold gErr at hR
  simp [A52]
  refine CondK.intro (fun h => ?_) (fun h => ?_)
  · simp at h
    rw [if_pos (by omega)] at hR
    simp [hR]
  · simp at h
    rw [if_neg (by omega)] at hR
    try simp 
    repeat' (first
      | (refine CallX.pure (containsFunc_c g (big_of hl) 133 [] gBad gbad_c (by simp) (by simp) (by simp)) (by simp) (by simp) ?_; try simp )
      | (refine CallK.intro (containsFunc_c g (big_of hl) 133 [] gBad gbad_c (by simp) (by simp) (by simp)) (by simp) (by simp) ?_; try simp )
      | (refine CallG.intro (fun _ => containsFunc_c g (big_of hl) 133 [] gBad gbad_c (by simp) (by simp) (by simp)) (by simp) (by simp) ?_; try simp )
      | ((with_reducible refine PreK.intro ?_ ?_); (next => (first | omega | (intros; first | omega | (refine ⟨by omega, ?_⟩; repeat (first | assumption | constructor)) | assumption))); intro _; try simp )
      | fail)
    refine CondK.intro (fun h2 => ?_) (fun h2 => ?_)
    · rw [if_pos (by simpa using h2)] at hR
      simp [hR]
    · rw [if_neg (by simpa using h2)] at hR
      try simp 
      refine LoopK.by (fun i : Nat => ⟨[(12, iv i), (11, iv g.length), (10, ints g), (0, ints g)], []⟩) (fun i => g.length - i)
        (fun i => i ≤ g.length ∧ (if dups (g.take i) (g.drop i) then 5 else 0) = R) 0 (by simpa using hR) (by simp) ?_
      intro i Q' ⟨hi, hc⟩ hq he hr
      try simp 
      refine CondK.intro (fun h3 => ?_) (fun h3 => ?_)
      · simp at h3
        rw [drop_cons g i h3, dups] at hc
        have hb : (g.take i).length ≤ big := by simp only [List.length_take, big]; omega
        have hct := contains_c (g.take i) (el g i) hb
        have e : ((g.take i).any fun x => decide (el g i = x)) = (g.take i).contains (el g i) := by
          rw [Bool.eq_iff_iff]; simp
        rw [e] at hct
        simp at hct
        simp [h3, Nat.le_of_lt h3]
        refine CallX.pure (by simpa [List.map_take] using hct) (by simp) (by simp) ?_
        try simp 
        refine CondK.intro (fun h4 => ?_) (fun h4 => ?_)
        · simp at h4
          simp [h4] at hc
          try simp 
          apply hr
          simp [hc]
        · simp at h4
          simp only [List.contains_eq_mem, h4, decide_false, Bool.false_or, ← take_succ g i h3] at hc
          try simp 
          repeat' (first
            | ((with_reducible refine PreK.intro ?_ ?_); (next => (first | omega | (intros; first | omega | (refine ⟨by omega, ?_⟩; repeat (first | assumption | constructor)) | assumption))); intro _; try simp )
            | fail)
          exact hq (i + 1) _ ⟨by omega, hc⟩ (by omega) (by simp)
      · simp at h3
        rw [List.drop_eq_nil_of_le (by omega), dups] at hc
        simp at hc
        try simp 
        apply he
        simp [hc]
theorem gErr_ok {g : List Int} (h : gErr g = 0) : gOK g := by
  unfold gErr at h
  by_cases h1 : 4 < g.length
  · simp [h1] at h
  · rw [if_neg h1] at h
    by_cases h2 : g.any gBad = true
    · rw [if_pos h2] at h; cases h
    · intro x hx
      simp only [List.any_eq_true, not_exists, not_and] at h2
      have := h2 x hx
      simp [gBad] at this
      omega
def firstG : List (List Int) → Int
  | [] => 0
  | g :: l => if gErr g ≠ 0 then gErr g else firstG l
def ocheckErr (s : List Rule) (w : List Int) (gs : List (List Int)) : Int := if sysErr s ≠ 0 then sysErr s else if wordErr w ≠ 0 then wordErr w else firstG gs
theorem ocheck_c (s : List Rule) (w : List Int) (gs : List (List Int)) (h : Sys.small s) (hw : w.length ≤ 1000) (hn : gs.length ≤ 1000) (hg : ∀ g ∈ gs, g.length ≤ 1000) :
    CallP Try.prog 107 [rulesV s, ints w, .seq 1 (gs.map ints) false] (iv (ocheckErr s w gs)) := by
  refine C107 (by simp) ?_
  generalize hR : ocheckErr s w gs = R
  unfold ocheckErr at hR
  simp [A107]
  try simp 
  repeat' (first
    | (refine CallX.pure (Validate_c s h) (by simp) (by simp) ?_; try simp )
    | (refine CallK.intro (Validate_c s h) (by simp) (by simp) ?_; try simp )
    | (refine CallG.intro (fun _ => Validate_c s h) (by simp) (by simp) ?_; try simp )
    | ((with_reducible refine PreK.intro ?_ ?_); (next => (first | omega | (intros; first | omega | (refine ⟨by omega, ?_⟩; repeat (first | assumption | constructor)) | assumption))); intro _; try simp )
    | fail)
  refine CondK.intro (fun h1 => ?_) (fun h1 => ?_)
  · simp at h1
    simp [h1] at hR
    simp [hR]
  · simp at h1
    simp [h1] at hR
    try simp 
    repeat' (first
      | (refine CallX.pure (validateWord_c w (big_of hw)) (by simp) (by simp) ?_; try simp )
      | (refine CallK.intro (validateWord_c w (big_of hw)) (by simp) (by simp) ?_; try simp )
      | (refine CallG.intro (fun _ => validateWord_c w (big_of hw)) (by simp) (by simp) ?_; try simp )
      | ((with_reducible refine PreK.intro ?_ ?_); (next => (first | omega | (intros; first | omega | (refine ⟨by omega, ?_⟩; repeat (first | assumption | constructor)) | assumption))); intro _; try simp )
      | fail)
    refine CondK.intro (fun h2 => ?_) (fun h2 => ?_)
    · simp at h2
      simp [h2] at hR
      simp [hR]
    · simp at h2
      simp [h2] at hR
      try simp 
      refine LoopK.by (fun i : Nat => ⟨[(24, iv i), (23, iv gs.length), (22, .seq 1 (gs.map ints) false)], []⟩) (fun i => gs.length - i) (fun i => i ≤ gs.length ∧ firstG (gs.drop i) = R) 0 (by simpa using hR) (by simp) ?_
      intro i Q' ⟨hi, hc⟩ hq he hr
      try simp 
      refine CondK.intro (fun h3 => ?_) (fun h3 => ?_)
      · simp at h3
        rw [drop_cons gs i h3, firstG] at hc
        have hgi := hg (el gs i) (by rw [el_eq gs i h3]; exact List.getElem_mem h3)
        simp [h3]
        try simp 
        repeat' (first
          | (refine CallX.pure (gValidate_c (el gs i) hgi) (by simp) (by simp) ?_; try simp )
          | (refine CallK.intro (gValidate_c (el gs i) hgi) (by simp) (by simp) ?_; try simp )
          | (refine CallG.intro (fun _ => gValidate_c (el gs i) hgi) (by simp) (by simp) ?_; try simp )
          | ((with_reducible refine PreK.intro ?_ ?_); (next => (first | omega | (intros; first | omega | (refine ⟨by omega, ?_⟩; repeat (first | assumption | constructor)) | assumption))); intro _; try simp )
          | fail)
        refine CondK.intro (fun h4 => ?_) (fun h4 => ?_)
        · simp at h4
          simp [h4] at hc
          try simp 
          apply hr
          simp [hc]
        · simp at h4
          simp [h4] at hc
          try simp 
          repeat' (first
            | ((with_reducible refine PreK.intro ?_ ?_); (next => (first | omega | (intros; first | omega | (refine ⟨by omega, ?_⟩; repeat (first | assumption | constructor)) | assumption))); intro _; try simp )
            | fail)
          exact hq (i + 1) _ ⟨by omega, hc⟩ (by omega) (by simp)
      · simp at h3
        rw [List.drop_eq_nil_of_le (by omega)] at hc
        simp [firstG] at hc
        try simp 
        apply he
        simp [hc]
theorem ocheck_one (s : List Rule) (w g : List Int) : ocheckErr s w [g] = orderErr s w g := by
  unfold ocheckErr orderErr swErr
  by_cases h : sysErr s = 0
  · by_cases h2 : wordErr w = 0
    · by_cases h3 : gErr g = 0 <;> simp [h, h2, h3, firstG]
    · simp [h, h2]
  · simp [h]
theorem orderErr_zero {s : List Rule} {w g : List Int} (h : orderErr s w g = 0) : swErr s w = 0 ∧ gErr g = 0 := by
  unfold orderErr at h
  by_cases h1 : swErr s w = 0
  · simp [h1] at h; exact ⟨h1, h⟩
  · simp [h1] at h
theorem Derive_c (s : List Rule) (w gs : List Int) (hs : Sys.small s) (hw : w.length ≤ 1000) (hgl : gs.length ≤ 1000) :
    CallP Try.prog 29 [rulesV s, ints w, ints gs] (.tup [choicesV (DeriveR s w gs).1, ints (DeriveR s w gs).2.1, iv (DeriveR s w gs).2.2]) := by
  refine C29 (by simp) ?_
  have hck := ocheck_c s w [gs] hs hw (by simp) (by simpa using hgl)
  rw [ocheck_one] at hck
  simp [A29]
  try simp 
  repeat' (first
    | (refine CallX.pure (hck) (by simp) (by simp) ?_; try simp )
    | (refine CallK.intro (hck) (by simp) (by simp) ?_; try simp )
    | (refine CallG.intro (fun _ => hck) (by simp) (by simp) ?_; try simp )
    | ((with_reducible refine PreK.intro ?_ ?_); (next => (first | omega | (intros; first | omega | (refine ⟨by omega, ?_⟩; repeat (first | assumption | constructor)) | assumption))); intro _; try simp )
    | fail)
  refine CondK.intro (fun h1 => ?_) (fun h1 => ?_)
  · simp at h1
    simp [DeriveR, h1]
  · simp at h1
    have hd := derive_c s w gs hs hw (gErr_ok (orderErr_zero h1).2) hgl
    by_cases h2 : (deriveR s gs 60 w).2.2 = true
    · simp only [h2, if_true] at hd
      try simp 
      repeat' (first
        | (refine CallX.pure (hd) (by simp) (by simp) ?_; try simp )
        | (refine CallK.intro (hd) (by simp) (by simp) ?_; try simp )
        | (refine CallG.intro (fun _ => hd) (by simp) (by simp) ?_; try simp )
        | ((with_reducible refine PreK.intro ?_ ?_); (next => (first | omega | (intros; first | omega | (refine ⟨by omega, ?_⟩; repeat (first | assumption | constructor)) | assumption))); intro _; try simp )
        | fail)
      simp [DeriveR, h1, h2]
    · simp only [h2, if_false] at hd
      try simp 
      repeat' (first
        | (refine CallX.pure (hd) (by simp) (by simp) ?_; try simp )
        | (refine CallK.intro (hd) (by simp) (by simp) ?_; try simp )
        | (refine CallG.intro (fun _ => hd) (by simp) (by simp) ?_; try simp )
        | ((with_reducible refine PreK.intro ?_ ?_); (next => (first | omega | (intros; first | omega | (refine ⟨by omega, ?_⟩; repeat (first | assumption | constructor)) | assumption))); intro _; try simp )
        | fail)
      simp [DeriveR, h1, h2]
theorem Form_c (s : List Rule) (w gs : List Int) (hs : Sys.small s) (hw : w.length ≤ 1000) (hgl : gs.length ≤ 1000) :
    CallP Try.prog 31 [rulesV s, ints w, ints gs] (.tup [ints (DeriveR s w gs).2.1, iv (DeriveR s w gs).2.2]) := by
  refine C31 (by simp) ?_
  simp [A31]
  try simp 
  repeat' (first
    | (refine CallX.pure (Derive_c s w gs hs hw hgl) (by simp) (by simp) ?_; try simp )
    | (refine CallK.intro (Derive_c s w gs hs hw hgl) (by simp) (by simp) ?_; try simp )
    | (refine CallG.intro (fun _ => Derive_c s w gs hs hw hgl) (by simp) (by simp) ?_; try simp )
    | ((with_reducible refine PreK.intro ?_ ?_); (next => (first | omega | (intros; first | omega | (refine ⟨by omega, ?_⟩; repeat (first | assumption | constructor)) | assumption))); intro _; try simp )
    | fail)
end Go.Proofs.Ytaooenmkofjafaa
end

section
/- Contracts: the reference's grounds. -/
namespace Go.Proofs.Ytaooenmkofjafaa
open Go.Abs Go
set_option maxRecDepth 20000
set_option maxHeartbeats 2000000
attribute [local irreducible] PreK CondK CallK CallG CallX LoopK
attribute [local simp] avsEq avEq akind teq vkind vEq

theorem rword_c (s : List Rule) (w : List Int) (h : Sys.small s) (hw : w.length ≤ 1000) : CallP Try.prog 120 [rulesV s, ints w] (iv (swErr s w)) := by
  refine C120 (by simp) ?_
  simp [A120]
  try simp 
  repeat' (first
    | (refine CallX.pure (rsValidate_c s h) (by simp) (by simp) ?_; try simp )
    | (refine CallK.intro (rsValidate_c s h) (by simp) (by simp) ?_; try simp )
    | (refine CallG.intro (fun _ => rsValidate_c s h) (by simp) (by simp) ?_; try simp )
    | ((with_reducible refine PreK.intro ?_ ?_); (next => (first | omega | (intros; first | omega | (refine ⟨by omega, ?_⟩; repeat (first | assumption | constructor)) | assumption))); intro _; try simp )
    | fail)
  refine CondK.intro (fun h1 => ?_) (fun h1 => ?_)
  · simp at h1
    simp [swErr, h1]
  · simp at h1
    try simp 
    repeat' (first
      | (refine CallX.pure (rValidateWord_c w hw) (by simp) (by simp) ?_; try simp )
      | (refine CallK.intro (rValidateWord_c w hw) (by simp) (by simp) ?_; try simp )
      | (refine CallG.intro (fun _ => rValidateWord_c w hw) (by simp) (by simp) ?_; try simp )
      | ((with_reducible refine PreK.intro ?_ ?_); (next => (first | omega | (intros; first | omega | (refine ⟨by omega, ?_⟩; repeat (first | assumption | constructor)) | assumption))); intro _; try simp )
      | fail)
    simp [swErr, h1]
theorem rall_c (s : List Rule) (w g : List Int) (h : Sys.small s) (hw : w.length ≤ 1000) (hg : g.length ≤ 1000) : CallP Try.prog 109 [rulesV s, ints w, ints g] (iv (orderErr s w g)) := by
  refine C109 (by simp) ?_
  simp [A109]
  try simp 
  repeat' (first
    | (refine CallX.pure (rword_c s w h hw) (by simp) (by simp) ?_; try simp )
    | (refine CallK.intro (rword_c s w h hw) (by simp) (by simp) ?_; try simp )
    | (refine CallG.intro (fun _ => rword_c s w h hw) (by simp) (by simp) ?_; try simp )
    | ((with_reducible refine PreK.intro ?_ ?_); (next => (first | omega | (intros; first | omega | (refine ⟨by omega, ?_⟩; repeat (first | assumption | constructor)) | assumption))); intro _; try simp )
    | fail)
  refine CondK.intro (fun h1 => ?_) (fun h1 => ?_)
  · simp at h1
    simp [orderErr, h1]
  · simp at h1
    try simp 
    repeat' (first
      | (refine CallX.pure (rvalidate_c g (big_of hg)) (by simp) (by simp) ?_; try simp )
      | (refine CallK.intro (rvalidate_c g (big_of hg)) (by simp) (by simp) ?_; try simp )
      | (refine CallG.intro (fun _ => rvalidate_c g (big_of hg)) (by simp) (by simp) ?_; try simp )
      | ((with_reducible refine PreK.intro ?_ ?_); (next => (first | omega | (intros; first | omega | (refine ⟨by omega, ?_⟩; repeat (first | assumption | constructor)) | assumption))); intro _; try simp )
      | fail)
    simp [orderErr, h1]
theorem rcandidates_c (s : List Rule) (w : List Int) (h : Sys.small s) (hw : w.length ≤ 1000) : CallP Try.prog 115 [rulesV s, ints w] (stepsV (stepsM s w)) := by
  refine C115 (by simp) ?_
  simp [A115]
  try simp 
  repeat' (first
    | (refine CallX.pure (rSteps_c s w h hw) (by simp) (by simp) ?_; try simp )
    | (refine CallK.intro (rSteps_c s w h hw) (by simp) (by simp) ?_; try simp )
    | (refine CallG.intro (fun _ => rSteps_c s w h hw) (by simp) (by simp) ?_; try simp )
    | ((with_reducible refine PreK.intro ?_ ?_); (next => (first | omega | (intros; first | omega | (refine ⟨by omega, ?_⟩; repeat (first | assumption | constructor)) | assumption))); intro _; try simp )
    | fail)
theorem rafter_c (s : List Rule) (w : List Int) (a : Step) (hs : Sys.small s) (hw : w.length ≤ 1000) (h0 : 0 ≤ a.rule) (h1 : a.rule < s.length) : CallP Try.prog 183 [rulesV s, ints w, stepV a] (ints (applyM (el s a.rule.toNat) w a.place).1) := by
  refine C183 (by simp) ?_
  have o5 : a.rule.toNat < s.length := by omega
  simp [A183]
  try simp [o5]
  repeat' (first
    | (refine CallX.pure (rApply_c (el s a.rule.toNat) w a.place (hs.el o5) hw) (by simp) (by simp) ?_; try simp [o5])
    | (refine CallK.intro (rApply_c (el s a.rule.toNat) w a.place (hs.el o5) hw) (by simp) (by simp) ?_; try simp [o5])
    | (refine CallG.intro (fun _ => rApply_c (el s a.rule.toNat) w a.place (hs.el o5) hw) (by simp) (by simp) ?_; try simp [o5])
    | ((with_reducible refine PreK.intro ?_ ?_); (next => (first | omega | (intros; first | omega | (refine ⟨by omega, ?_⟩; repeat (first | assumption | constructor)) | assumption))); intro _; try simp [o5])
    | fail)
theorem rlasts_c (s : List Rule) (w : List Int) (a b : Step) (hs : Sys.small s) (hw : w.length ≤ 1000) (ha : stepOK s a) (hb : stepOK s b) :
    CallP Try.prog 122 [rulesV s, ints w, stepV a, stepV b] (bv (lastsM w (el s a.rule.toNat) a (el s b.rule.toNat) b)) := by
  refine C122 (by simp) ?_
  have oa : a.rule.toNat < s.length := by have := ha.1; have := ha.2.1; omega
  have ob : b.rule.toNat < s.length := by have := hb.1; have := hb.2.1; omega
  obtain ⟨a1, a2, a3, a4⟩ := ha
  obtain ⟨b1, b2, b3, b4⟩ := hb
  have ht := (hs.el ob).1
  have haf := rafter_c s w b hs hw b1 b2
  have hw2 : (applyM (el s b.rule.toNat) w b.place).1.length ≤ 1000 := by have := applyM_len (el s b.rule.toNat) w b.place; omega
  simp [A122]
  try simp 
  repeat' (first
    | ((with_reducible refine PreK.intro ?_ ?_); (next => (first | omega | (intros; first | omega | (refine ⟨by omega, ?_⟩; repeat (first | assumption | constructor)) | assumption))); intro _; try simp )
    | fail)
  refine CondK.intro (fun h1 => ?_) (fun h1 => ?_)
  · simp at h1
    try simp [oa, ob]
    repeat' (first
      | ((with_reducible refine PreK.intro ?_ ?_); (next => (first | omega | (intros; first | omega | (refine ⟨by omega, ?_⟩; repeat (first | assumption | constructor)) | assumption))); intro _; try simp [oa, ob])
      | fail)
    refine CondK.intro (fun h2 => ?_) (fun h2 => ?_)
    · simp at h2
      try simp [oa, ob]
      repeat' (first
        | (refine CallX.pure (haf) (by simp) (by simp) ?_; try simp [oa, ob])
        | (refine CallK.intro (haf) (by simp) (by simp) ?_; try simp [oa, ob])
        | (refine CallG.intro (fun _ => haf) (by simp) (by simp) ?_; try simp [oa, ob])
        | (refine CallX.pure (rApply_c (el s a.rule.toNat) (applyM (el s b.rule.toNat) w b.place).1 (a.place + (el s b.rule.toNat).to.length - 1) (hs.el oa) hw2) (by simp) (by simp) ?_; try simp [oa, ob])
        | (refine CallK.intro (rApply_c (el s a.rule.toNat) (applyM (el s b.rule.toNat) w b.place).1 (a.place + (el s b.rule.toNat).to.length - 1) (hs.el oa) hw2) (by simp) (by simp) ?_; try simp [oa, ob])
        | (refine CallG.intro (fun _ => rApply_c (el s a.rule.toNat) (applyM (el s b.rule.toNat) w b.place).1 (a.place + (el s b.rule.toNat).to.length - 1) (hs.el oa) hw2) (by simp) (by simp) ?_; try simp [oa, ob])
        | ((with_reducible refine PreK.intro ?_ ?_); (next => (first | omega | (intros; first | omega | (refine ⟨by omega, ?_⟩; repeat (first | assumption | constructor)) | assumption))); intro _; try simp [oa, ob])
        | fail)
      simp [lastsM, lastPlace, h1, h2]
    · simp at h2
      try simp [oa, ob]
      repeat' (first
        | (refine CallX.pure (haf) (by simp) (by simp) ?_; try simp [oa, ob])
        | (refine CallK.intro (haf) (by simp) (by simp) ?_; try simp [oa, ob])
        | (refine CallG.intro (fun _ => haf) (by simp) (by simp) ?_; try simp [oa, ob])
        | (refine CallX.pure (rApply_c (el s a.rule.toNat) (applyM (el s b.rule.toNat) w b.place).1 (a.place + (el s b.rule.toNat).to.length) (hs.el oa) hw2) (by simp) (by simp) ?_; try simp [oa, ob])
        | (refine CallK.intro (rApply_c (el s a.rule.toNat) (applyM (el s b.rule.toNat) w b.place).1 (a.place + (el s b.rule.toNat).to.length) (hs.el oa) hw2) (by simp) (by simp) ?_; try simp [oa, ob])
        | (refine CallG.intro (fun _ => rApply_c (el s a.rule.toNat) (applyM (el s b.rule.toNat) w b.place).1 (a.place + (el s b.rule.toNat).to.length) (hs.el oa) hw2) (by simp) (by simp) ?_; try simp [oa, ob])
        | ((with_reducible refine PreK.intro ?_ ?_); (next => (first | omega | (intros; first | omega | (refine ⟨by omega, ?_⟩; repeat (first | assumption | constructor)) | assumption))); intro _; try simp [oa, ob])
        | fail)
      have h3 : ¬ 0 ≤ (el s b.rule.toNat).frm := by omega
      simp [lastsM, lastPlace, h1, h3]
  · simp at h1
    try simp [oa, ob]
    repeat' (first
      | (refine CallX.pure (haf) (by simp) (by simp) ?_; try simp [oa, ob])
      | (refine CallK.intro (haf) (by simp) (by simp) ?_; try simp [oa, ob])
      | (refine CallG.intro (fun _ => haf) (by simp) (by simp) ?_; try simp [oa, ob])
      | (refine CallX.pure (rApply_c (el s a.rule.toNat) (applyM (el s b.rule.toNat) w b.place).1 a.place (hs.el oa) hw2) (by simp) (by simp) ?_; try simp [oa, ob])
      | (refine CallK.intro (rApply_c (el s a.rule.toNat) (applyM (el s b.rule.toNat) w b.place).1 a.place (hs.el oa) hw2) (by simp) (by simp) ?_; try simp [oa, ob])
      | (refine CallG.intro (fun _ => rApply_c (el s a.rule.toNat) (applyM (el s b.rule.toNat) w b.place).1 a.place (hs.el oa) hw2) (by simp) (by simp) ?_; try simp [oa, ob])
      | ((with_reducible refine PreK.intro ?_ ?_); (next => (first | omega | (intros; first | omega | (refine ⟨by omega, ?_⟩; repeat (first | assumption | constructor)) | assumption))); intro _; try simp [oa, ob])
      | fail)
    have h3 : ¬ b.place < a.place := by omega
    simp [lastsM, lastPlace, h3]
theorem rpro_c (s : List Rule) (w : List Int) (g : Int) (a b : Step) (hs : Sys.small s) (hw : w.length ≤ 1000) (ha : stepOK s a) (hb : stepOK s b) :
    CallP Try.prog 189 [rulesV s, ints w, iv g, stepV a, stepV b] (bv (proM w g (el s a.rule.toNat) a (el s b.rule.toNat) b)) := by
  refine C189 (by simp) ?_
  have oa : a.rule.toNat < s.length := by have := ha.1; have := ha.2.1; omega
  have ob : b.rule.toNat < s.length := by have := hb.1; have := hb.2.1; omega
  obtain ⟨a1, a2, a3, a4⟩ := ha
  obtain ⟨b1, b2, b3, b4⟩ := hb
  simp [A189]
  refine CondK.intro (fun h1 => ?_) (fun h1 => ?_)
  · simp at h1
    subst h1
    try simp [oa, ob]
    repeat' (first
      | ((with_reducible refine PreK.intro ?_ ?_); (next => (first | omega | (intros; first | omega | (refine ⟨by omega, ?_⟩; repeat (first | assumption | constructor)) | assumption))); intro _; try simp [oa, ob])
      | fail)
    refine CallK.intro (by simpa using rIsSpecial_c (el s a.rule.toNat) (el s b.rule.toNat) (hs.el oa) (hs.el ob)) (by simp) (by simp) ?_
    try simp 
    try simp [oa, ob]
    repeat' (first
      | ((with_reducible refine PreK.intro ?_ ?_); (next => (first | omega | (intros; first | omega | (refine ⟨by omega, ?_⟩; repeat (first | assumption | constructor)) | assumption))); intro _; try simp [oa, ob])
      | fail)
    refine CallK.intro (by simpa using rIsSpecial_c (el s b.rule.toNat) (el s a.rule.toNat) (hs.el ob) (hs.el oa)) (by simp) (by simp) ?_
    try simp 
    try simp 
    repeat' (first
      | ((with_reducible refine PreK.intro ?_ ?_); (next => (first | omega | (intros; first | omega | (refine ⟨by omega, ?_⟩; repeat (first | assumption | constructor)) | assumption))); intro _; try simp )
      | fail)
    simp [proM, Bool.and_assoc]
  · simp at h1
    try simp 
    refine CondK.intro (fun h2 => ?_) (fun h2 => ?_)
    · simp at h2
      subst h2
      try simp 
      repeat' (first
        | (refine CallX.pure (rlasts_c s w a b hs hw ⟨a1, a2, a3, a4⟩ ⟨b1, b2, b3, b4⟩) (by simp) (by simp) ?_; try simp )
        | (refine CallK.intro (rlasts_c s w a b hs hw ⟨a1, a2, a3, a4⟩ ⟨b1, b2, b3, b4⟩) (by simp) (by simp) ?_; try simp )
        | (refine CallG.intro (fun _ => rlasts_c s w a b hs hw ⟨a1, a2, a3, a4⟩ ⟨b1, b2, b3, b4⟩) (by simp) (by simp) ?_; try simp )
        | (refine CallX.pure (rlasts_c s w b a hs hw ⟨b1, b2, b3, b4⟩ ⟨a1, a2, a3, a4⟩) (by simp) (by simp) ?_; try simp )
        | (refine CallK.intro (rlasts_c s w b a hs hw ⟨b1, b2, b3, b4⟩ ⟨a1, a2, a3, a4⟩) (by simp) (by simp) ?_; try simp )
        | (refine CallG.intro (fun _ => rlasts_c s w b a hs hw ⟨b1, b2, b3, b4⟩ ⟨a1, a2, a3, a4⟩) (by simp) (by simp) ?_; try simp )
        | ((with_reducible refine PreK.intro ?_ ?_); (next => (first | omega | (intros; first | omega | (refine ⟨by omega, ?_⟩; repeat (first | assumption | constructor)) | assumption))); intro _; try simp )
        | fail)
      simp [proM]
    · simp at h2
      try simp 
      refine CondK.intro (fun h3 => ?_) (fun h3 => ?_)
      · simp at h3
        subst h3
        try simp 
        repeat' (first
          | ((with_reducible refine PreK.intro ?_ ?_); (next => (first | omega | (intros; first | omega | (refine ⟨by omega, ?_⟩; repeat (first | assumption | constructor)) | assumption))); intro _; try simp )
          | fail)
        simp [proM]
      · simp at h3
        try simp 
        repeat' (first
          | ((with_reducible refine PreK.intro ?_ ?_); (next => (first | omega | (intros; first | omega | (refine ⟨by omega, ?_⟩; repeat (first | assumption | constructor)) | assumption))); intro _; try simp )
          | fail)
        simp [proM, h1, h2, h3]
theorem rdecide_c (s : List Rule) (w : List Int) (g : Int) (a b : Step) (hs : Sys.small s) (hw : w.length ≤ 1000) (ha : stepOK s a) (hb : stepOK s b) :
    CallP Try.prog 126 [rulesV s, ints w, iv g, stepV a, stepV b] (iv (decideM w g (el s a.rule.toNat) a (el s b.rule.toNat) b)) := by
  refine C126 (by simp) ?_
  simp [A126]
  try simp 
  repeat' (first
    | (refine CallX.pure (rpro_c s w g a b hs hw ha hb) (by simp) (by simp) ?_; try simp )
    | (refine CallK.intro (rpro_c s w g a b hs hw ha hb) (by simp) (by simp) ?_; try simp )
    | (refine CallG.intro (fun _ => rpro_c s w g a b hs hw ha hb) (by simp) (by simp) ?_; try simp )
    | ((with_reducible refine PreK.intro ?_ ?_); (next => (first | omega | (intros; first | omega | (refine ⟨by omega, ?_⟩; repeat (first | assumption | constructor)) | assumption))); intro _; try simp )
    | fail)
  refine CondK.intro (fun h1 => ?_) (fun h1 => ?_)
  · simp [decideM, h1]
  · try simp at h1
    try simp 
    repeat' (first
      | (refine CallX.pure (rpro_c s w g b a hs hw hb ha) (by simp) (by simp) ?_; try simp )
      | (refine CallK.intro (rpro_c s w g b a hs hw hb ha) (by simp) (by simp) ?_; try simp )
      | (refine CallG.intro (fun _ => rpro_c s w g b a hs hw hb ha) (by simp) (by simp) ?_; try simp )
      | ((with_reducible refine PreK.intro ?_ ?_); (next => (first | omega | (intros; first | omega | (refine ⟨by omega, ?_⟩; repeat (first | assumption | constructor)) | assumption))); intro _; try simp )
      | fail)
    refine CondK.intro (fun h2 => ?_) (fun h2 => ?_)
    · simp [decideM, h1, h2]
    · try simp at h2
      simp [decideM, h1, h2]
theorem rbeats_c (s : List Rule) (w gs : List Int) (a b : Step) (hs : Sys.small s) (hw : w.length ≤ 1000) (hg : gOK gs) (hgl : gs.length ≤ 1000) (ha : stepOK s a) (hb : stepOK s b) :
    CallP Try.prog 124 [rulesV s, ints w, ints gs, stepV a, stepV b] (iv (beatsS s w gs a b)) := by
  refine C124 (by simp) ?_
  generalize hR : beatsS s w gs a b = R
  unfold beatsS at hR
  simp [A124]
  refine LoopK.by (fun i : Nat => ⟨[(11, iv i), (0, rulesV s), (1, ints w), (2, ints gs), (8, .pt 8 1 0 0), (9, .pt 9 1 0 0)], [(8, some ⟨2, [stepV a], 1, true⟩), (9, some ⟨2, [stepV b], 1, true⟩)]⟩) (fun i => gs.length - i)
    (fun i => i ≤ gs.length ∧ beatsM w (gs.drop i) (el s a.rule.toNat) a (el s b.rule.toNat) b = R) 0 (by simpa using hR) (by simp) ?_
  intro i Q' ⟨hi, hc⟩ hq he hr
  try simp 
  refine CondK.intro (fun h1 => ?_) (fun h1 => ?_)
  · simp at h1
    rw [drop_cons gs i h1, beatsM] at hc
    have hgi := hg (el gs i) (by rw [el_eq gs i h1]; exact List.getElem_mem h1)
    have hd := decideM_cases w (el gs i) (el s a.rule.toNat) a (el s b.rule.toNat) b
    simp [h1]
    try simp [h1]
    repeat' (first
      | (refine CallX.pure (rdecide_c s w (el gs i) a b hs hw ha hb) (by simp) (by simp) ?_; try simp [h1])
      | (refine CallK.intro (rdecide_c s w (el gs i) a b hs hw ha hb) (by simp) (by simp) ?_; try simp [h1])
      | (refine CallG.intro (fun _ => rdecide_c s w (el gs i) a b hs hw ha hb) (by simp) (by simp) ?_; try simp [h1])
      | ((with_reducible refine PreK.intro ?_ ?_); (next => (first | omega | (intros; first | omega | (refine ⟨by omega, ?_⟩; repeat (first | assumption | constructor)) | assumption))); intro _; try simp [h1])
      | fail)
    refine CondK.intro (fun h2 => ?_) (fun h2 => ?_)
    · simp at h2
      simp [h2] at hc
      simp [h1]
      refine PreK.intro (by rcases hd with e | e | e <;> rw [e] <;> omega) fun _ => ?_
      try simp 
      apply hr
      simp [hc]
    · simp at h2
      simp [h2] at hc
      try simp 
      repeat' (first
        | ((with_reducible refine PreK.intro ?_ ?_); (next => (first | omega | (intros; first | omega | (refine ⟨by omega, ?_⟩; repeat (first | assumption | constructor)) | assumption))); intro _; try simp )
        | fail)
      exact hq (i + 1) _ ⟨by omega, hc⟩ (by omega) (by simp)
  · simp at h1
    rw [List.drop_eq_nil_of_le (by omega)] at hc
    simp [beatsM] at hc
    try simp 
    apply he
    simp [hc]
end Go.Proofs.Ytaooenmkofjafaa
end

section
/- Contracts: the reference's winner and derivation. -/
namespace Go.Proofs.Ytaooenmkofjafaa
open Go.Abs Go
set_option maxRecDepth 20000
set_option maxHeartbeats 2000000
attribute [local irreducible] PreK CondK CallK CallG CallX LoopK
attribute [local simp] avsEq avEq akind teq vkind vEq

theorem movesR_sorted (r : Rule) (w : List Int) (k : Nat) : ∀ (n i : Nat), (movesR r w k i n).Pairwise (fun a b => a.step ≠ b.step) ∧ ∀ m ∈ movesR r w k i n, m.step.rule = k ∧ (i : Int) ≤ m.step.place
  | 0, i => by simp [movesR]
  | n + 1, i => by
    obtain ⟨h1, h2⟩ := movesR_sorted r w k n (i + 1)
    rw [movesR]
    unfold moveAt
    split
    · refine ⟨?_, ?_⟩
      · simp only [List.cons_append, List.nil_append, List.pairwise_cons]
        refine ⟨fun m hm e => ?_, h1⟩
        have := (h2 m hm).2
        rw [← e] at this
        simp at this
        omega
      · intro m hm
        simp only [List.cons_append, List.nil_append, List.mem_cons] at hm
        rcases hm with rfl | hm
        · simp
        · have := h2 m hm; exact ⟨this.1, by have := this.2; omega⟩
    · refine ⟨by simpa using h1, fun m hm => ?_⟩
      have := h2 m (by simpa using hm)
      exact ⟨this.1, by have := this.2; omega⟩
theorem movesF_sorted (w : List Int) : ∀ (s : List Rule) (k : Nat), (movesF w k s).Pairwise (fun a b => a.step ≠ b.step) ∧ ∀ m ∈ movesF w k s, (k : Int) ≤ m.step.rule
  | [], k => by simp [movesF]
  | r :: s, k => by
    obtain ⟨h1, h2⟩ := movesF_sorted w s (k + 1)
    obtain ⟨h3, h4⟩ := movesR_sorted r w k (w.length + 1) 0
    rw [movesF]
    refine ⟨List.pairwise_append.2 ⟨h3, h1, fun a ha b hb e => ?_⟩, fun m hm => ?_⟩
    · have e1 := (h4 a ha).1
      have e2 := h2 b hb
      rw [← e, e1] at e2
      omega
    · rcases List.mem_append.1 hm with hm | hm
      · rw [(h4 m hm).1]; omega
      · have := h2 m hm; omega
theorem stepsM_nodup (s : List Rule) (w : List Int) : (stepsM s w).Nodup := by
  unfold stepsM
  split
  · exact List.Pairwise.nil
  · unfold List.Nodup movesM
    rw [List.pairwise_map]
    exact (movesF_sorted w s 0).1
theorem nodup_el {l : List Step} (h : l.Nodup) {i j : Nat} (hi : i < l.length) (hj : j < l.length) : (el l j = el l i) ↔ j = i := by
  rw [el_eq l i hi, el_eq l j hj]
  have hp := List.pairwise_iff_getElem.1 h
  constructor
  · intro e
    rcases Nat.lt_trichotomy j i with h1 | h1 | h1
    · exact absurd e (hp j i hj hi h1)
    · exact h1
    · exact absurd e.symm (hp i j hi hj h1)
  · rintro rfl; rfl
theorem rbest_c (s : List Rule) (w gs : List Int) (l : List Step) (hs : Sys.small s) (hw : w.length ≤ 1000) (hg : gOK gs) (hgl : gs.length ≤ 1000) (hl : l.length ≤ 100) (hok : ∀ y ∈ l, stepOK s y) (hnd : l.Nodup) :
    CallP Try.prog 116 [rulesV s, ints w, ints gs, stepsV l] (iv (idxG (topOf s w gs l) 0 l)) := by
  refine C116 (by simp) ?_
  generalize hR : idxG (topOf s w gs l) 0 l = R
  simp [A116]
  refine LoopK.by (fun i : Nat => ⟨[(9, iv i), (0, rulesV s), (1, ints w), (2, ints gs), (3, stepsV l)], []⟩) (fun i => l.length - i)
    (fun i => i ≤ l.length ∧ idxG (topOf s w gs l) i (l.drop i) = R) 0 (by simpa using hR) (by simp) ?_
  intro i Q' ⟨hi, hc⟩ hq he hr
  try simp 
  refine CondK.intro (fun h1 => ?_) (fun h1 => ?_)
  · simp at h1
    have hoi := hok (el l i) (by rw [el_eq l i h1]; exact List.getElem_mem h1)
    rw [drop_cons l i h1] at hc
    try simp 
    refine LoopK.by (ι := Nat × Bool) (fun j => ⟨[(11, iv j.1), (10, bv j.2), (9, iv i), (0, rulesV s), (1, ints w), (2, ints gs), (3, stepsV l)], []⟩) (fun j => l.length - j.1)
      (fun j => j.1 ≤ l.length ∧ (j.2 && topOf s w gs (l.drop j.1) (el l i)) = topOf s w gs l (el l i)) (0, true) (by simp) (by simp) ?_
    intro ⟨j, b⟩ Q'' ⟨hj, hb⟩ hq' he' hr'
    dsimp only at hj hb
    try simp 
    repeat' (first
      | ((with_reducible refine PreK.intro ?_ ?_); (next => (first | omega | (intros; first | omega | (refine ⟨by omega, ?_⟩; repeat (first | assumption | constructor)) | assumption))); intro _; try simp )
      | fail)
    refine CondK.intro (fun h2 => ?_) (fun h2 => ?_)
    · simp at h2
      obtain ⟨h2, rfl⟩ := h2
      have hoj := hok (el l j) (by rw [el_eq l j h2]; exact List.getElem_mem h2)
      rw [topOf_drop s w gs _ l j h2, Bool.true_and] at hb
      have hij := nodup_el hnd h1 h2
      have hint : decide ((j : Int) = (i : Int)) = decide (el l j = el l i) := by
        rw [Bool.eq_iff_iff]; simp only [decide_eq_true_eq, hij]; omega
      have hbt := rbeats_c s w gs (el l i) (el l j) hs hw hg hgl hoi hoj
      try simp [h1, h2]
      repeat' (first
        | (refine CallX.pure (hbt) (by simp) (by simp) ?_; try simp [h1, h2])
        | (refine CallK.intro (hbt) (by simp) (by simp) ?_; try simp [h1, h2])
        | (refine CallG.intro (fun _ => hbt) (by simp) (by simp) ?_; try simp [h1, h2])
        | ((with_reducible refine PreK.intro ?_ ?_); (next => (first | omega | (intros; first | omega | (refine ⟨by omega, ?_⟩; repeat (first | assumption | constructor)) | assumption))); intro _; try simp [h1, h2])
        | fail)
      rw [hint]
      exact hq' (j + 1, decide (el l j = el l i) || decide (0 < beatsS s w gs (el l i) (el l j))) _ ⟨by dsimp only; omega, hb⟩ (by dsimp only; omega) (by simp)
    · have hbe : topOf s w gs l (el l i) = b := by
        by_cases h3 : j < l.length
        · have h4 : b = false := by simpa [h3] using h2
          subst h4
          simpa using hb.symm
        · rw [List.drop_eq_nil_of_le (by omega)] at hb
          have : topOf s w gs [] (el l i) = true := rfl
          rw [this, Bool.and_true] at hb
          exact hb.symm
      simp only [idxG, hbe] at hc
      try simp 
      apply he'
      try simp 
      refine CondK.intro (fun h5 => ?_) (fun h5 => ?_)
      · rw [if_pos h5] at hc
        try simp 
        repeat' (first
          | ((with_reducible refine PreK.intro ?_ ?_); (next => (first | omega | (intros; first | omega | (refine ⟨by omega, ?_⟩; repeat (first | assumption | constructor)) | assumption))); intro _; try simp )
          | fail)
        apply hr
        simp [hc]
      · rw [if_neg (by simp [h5])] at hc
        try simp 
        repeat' (first
          | ((with_reducible refine PreK.intro ?_ ?_); (next => (first | omega | (intros; first | omega | (refine ⟨by omega, ?_⟩; repeat (first | assumption | constructor)) | assumption))); intro _; try simp )
          | fail)
        exact hq (i + 1) _ ⟨by omega, hc⟩ (by omega) (by simp)
  · simp at h1
    rw [List.drop_eq_nil_of_le (by omega)] at hc
    simp [idxG] at hc
    try simp 
    apply he
    simp [hc]
theorem find_first {l : List Step} (h : l.Nodup) {i : Nat} (hi : i < l.length) (h1 : 1 < l.length) : l.find? (fun b => decide (b ≠ el l i)) = some (el l (if i = 0 then 1 else 0)) := by
  match l, h1 with
  | x :: y :: r, _ =>
    have hxy : x ≠ y := by simp only [List.nodup_cons, List.mem_cons, not_or] at h; exact h.1.1
    cases i with
    | zero => simp [el, List.find?, Ne.symm hxy]
    | succ i =>
      have hne : x ≠ el (x :: y :: r) (i + 1) := by
        intro e
        have := (nodup_el h (i := i + 1) (j := 0) hi (by simp)).1 (by simpa [el] using e)
        omega
      simp [List.find?, hne, el]
      simp [el] at hne
      simp [hne]
theorem winner_c (s : List Rule) (w gs : List Int) (hs : Sys.small s) (hw : w.length ≤ 1000) (hg : gOK gs) (hgl : gs.length ≤ 1000) :
    CallP Try.prog 112 [rulesV s, ints w, ints gs] (.tup [choiceV ((choiceM s w gs).getD ⟨0, 0, 0⟩), bv (choiceM s w gs).isSome]) := by
  refine C112 (by simp) ?_
  have hcd := rcandidates_c s w hs hw
  have hok : ∀ x ∈ stepsM s w, stepOK s x := stepsM_ok
  have hlen : (stepsM s w).length ≤ 54 := stepsM_len
  have hnd := stepsM_nodup s w
  generalize hR : choiceM s w gs = R
  unfold choiceM at hR
  simp [A112]
  generalize stepsM s w = l at hcd hok hlen hnd hR
  try simp 
  repeat' (first
    | (refine CallX.pure (hcd) (by simp) (by simp) ?_; try simp )
    | (refine CallK.intro (hcd) (by simp) (by simp) ?_; try simp )
    | (refine CallG.intro (fun _ => hcd) (by simp) (by simp) ?_; try simp )
    | ((with_reducible refine PreK.intro ?_ ?_); (next => (first | omega | (intros; first | omega | (refine ⟨by omega, ?_⟩; repeat (first | assumption | constructor)) | assumption))); intro _; try simp )
    | fail)
  cases l with
  | nil =>
    dsimp only at hR
    subst hR
    try simp 
    repeat' (first
      | ((with_reducible refine PreK.intro ?_ ?_); (next => (first | omega | (intros; first | omega | (refine ⟨by omega, ?_⟩; repeat (first | assumption | constructor)) | assumption))); intro _; try simp )
      | fail)
    refine CondK.intro (fun h1 => ?_) (fun h1 => ?_)
    · try simp 
      repeat' (first
        | ((with_reducible refine PreK.intro ?_ ?_); (next => (first | omega | (intros; first | omega | (refine ⟨by omega, ?_⟩; repeat (first | assumption | constructor)) | assumption))); intro _; try simp )
        | fail)
    · simp at h1
  | cons x xs =>
    dsimp only at hR
    generalize hl2 : x :: xs = l at hcd hok hlen hnd hR
    have hlx : l.length = xs.length + 1 := by rw [← hl2]; simp
    have hbest := rbest_c s w gs l hs hw hg hgl (by omega) hok hnd
    refine CondK.intro (fun h1 => ?_) (fun h1 => ?_)
    · exfalso; simp at h1; rw [h1] at hlx; simp at hlx
    · try simp 
      repeat' (first
        | (refine CallX.pure (hbest) (by simp) (by simp) ?_; try simp )
        | (refine CallK.intro (hbest) (by simp) (by simp) ?_; try simp )
        | (refine CallG.intro (fun _ => hbest) (by simp) (by simp) ?_; try simp )
        | ((with_reducible refine PreK.intro ?_ ?_); (next => (first | omega | (intros; first | omega | (refine ⟨by omega, ?_⟩; repeat (first | assumption | constructor)) | assumption))); intro _; try simp )
        | fail)
      unfold bestM at hR
      cases hf : l.find? (topOf s w gs l) with
      | none =>
        have hno : idxG (topOf s w gs l) 0 l = -1 := idxG_none _ l 0 (fun y hy => by simpa using List.find?_eq_none.1 hf y hy)
        rw [hf] at hR
        dsimp only at hR
        subst hR
        rw [hno]
        have e1 : (((l.length : Int)) - 1).toNat = xs.length := by omega
        have e2 : xs.length < l.length := by omega
        refine CondK.intro (fun h2 => ?_) (fun h2 => ?_)
        · try simp [e1, e2]
          repeat' (first
            | ((with_reducible refine PreK.intro ?_ ?_); (next => (first | omega | (intros; first | omega | (refine ⟨by omega, ?_⟩; repeat (first | assumption | constructor)) | assumption))); intro _; try simp [e1, e2])
            | fail)
        · simp at h2
      | some a =>
        obtain ⟨i, hi1, hi2, hi3⟩ := idxG_find _ l 0 a hf
        simp at hi2
        rw [hf] at hR
        dsimp only at hR
        rw [hi2]
        refine CondK.intro (fun h2 => ?_) (fun h2 => ?_)
        · simp at h2; omega
        · subst hi3
          have hoi := hok (el l i) (by rw [el_eq l i hi1]; exact List.getElem_mem hi1)
          try simp [hi1]
          repeat' (first
            | ((with_reducible refine PreK.intro ?_ ?_); (next => (first | omega | (intros; first | omega | (refine ⟨by omega, ?_⟩; repeat (first | assumption | constructor)) | assumption))); intro _; try simp [hi1])
            | fail)
          refine CondK.intro (fun h3 => ?_) (fun h3 => ?_)
          · have h4 : 1 < l.length := by simp at h3; omega
            rw [find_first hnd hi1 h4] at hR
            dsimp only at hR
            try simp 
            refine CondK.intro (fun h5 => ?_) (fun h5 => ?_)
            · have hi0 : i = 0 := by simp at h5; omega
              subst hi0
              simp only [if_true] at hR
              have ho1 := hok (el l 1) (by rw [el_eq l 1 h4]; exact List.getElem_mem h4)
              have hbt := rbeats_c s w gs (el l 0) (el l 1) hs hw hg hgl hoi ho1
              subst hR
              try simp [hi1, h4]
              repeat' (first
                | (refine CallX.pure (hbt) (by simp) (by simp) ?_; try simp [hi1, h4])
                | (refine CallK.intro (hbt) (by simp) (by simp) ?_; try simp [hi1, h4])
                | (refine CallG.intro (fun _ => hbt) (by simp) (by simp) ?_; try simp [hi1, h4])
                | ((with_reducible refine PreK.intro ?_ ?_); (next => (first | omega | (intros; first | omega | (refine ⟨by omega, ?_⟩; repeat (first | assumption | constructor)) | assumption))); intro _; try simp [hi1, h4])
                | fail)
            · have hi0 : i ≠ 0 := by simp at h5; omega
              simp only [hi0, if_false] at hR
              have h0 : 0 < l.length := by omega
              have ho1 := hok (el l 0) (by rw [el_eq l 0 h0]; exact List.getElem_mem h0)
              have hbt := rbeats_c s w gs (el l i) (el l 0) hs hw hg hgl hoi ho1
              subst hR
              try simp [hi1, h0]
              repeat' (first
                | (refine CallX.pure (hbt) (by simp) (by simp) ?_; try simp [hi1, h0])
                | (refine CallK.intro (hbt) (by simp) (by simp) ?_; try simp [hi1, h0])
                | (refine CallG.intro (fun _ => hbt) (by simp) (by simp) ?_; try simp [hi1, h0])
                | ((with_reducible refine PreK.intro ?_ ?_); (next => (first | omega | (intros; first | omega | (refine ⟨by omega, ?_⟩; repeat (first | assumption | constructor)) | assumption))); intro _; try simp [hi1, h0])
                | fail)
          · have h4 : xs = [] := by simp at h3; exact List.eq_nil_of_length_eq_zero (by omega)
            have hi0 : i = 0 := by rw [h4] at hlx; simp at hlx; omega
            subst hi0
            have : l.find? (fun b => decide (b ≠ el l 0)) = none := by rw [← hl2, h4]; simp [el, List.find?]
            rw [this] at hR
            dsimp only at hR
            subst hR
            try simp 
            repeat' (first
              | ((with_reducible refine PreK.intro ?_ ?_); (next => (first | omega | (intros; first | omega | (refine ⟨by omega, ?_⟩; repeat (first | assumption | constructor)) | assumption))); intro _; try simp )
              | fail)
end Go.Proofs.Ytaooenmkofjafaa
end

section
/- Contracts: the reference's derivation; comparisons of choices. -/
namespace Go.Proofs.Ytaooenmkofjafaa
open Go.Abs Go
set_option maxRecDepth 20000
set_option maxHeartbeats 2000000
attribute [local irreducible] PreK CondK CallK CallG CallX LoopK
attribute [local simp] avsEq avEq akind teq vkind vEq

theorem rderive_c (s : List Rule) (w gs : List Int) (hs : Sys.small s) (hw : w.length ≤ 1000) (hg : gOK gs) (hgl : gs.length ≤ 1000) :
    CallP Try.prog 110 [rulesV s, ints w, ints gs] (.tup [choicesV (deriveR s gs 60 w).1, ints (deriveR s gs 60 w).2.1, bv (deriveR s gs 60 w).2.2]) := by
  refine C110 (by simp) ?_
  generalize hR : deriveR s gs 60 w = R
  obtain ⟨R1, R2, R3⟩ := R
  dsimp only
  simp [A110]
  refine LoopK.by (ι := Nat × Nat × List Int × List Choice) (fun i => ⟨[(0, rulesV s), (1, ints i.2.2.1), (2, ints gs), (9, .sl 9 i.2.1 0 i.2.2.2.length)], [(9, some ⟨3, i.2.2.2.map choiceV, i.2.1, false⟩)]⟩) (fun i => i.1)
    (fun i => i.2.2.2.length + i.1 = 60 ∧ i.2.2.1.length ≤ 1000 ∧ i.2.2.2 ++ (deriveR s gs i.1 i.2.2.1).1 = R1 ∧ (deriveR s gs i.1 i.2.2.1).2 = (R2, R3)) (60, 1, w, []) (by simp [hR, hw]) (by simp) ?_
  intro ⟨n, ver, v, acc⟩ Q' ⟨hn, hv, hc1, hc2⟩ hq he hr
  dsimp only at hn hv hc1 hc2
  have hch := winner_c s v gs hs hv hg hgl
  cases hcm : choiceM s v gs with
  | none =>
    rw [hcm] at hch
    rw [deriveR_none hcm] at hc1 hc2
    simp at hc1 hc2 hch
    obtain ⟨rfl, rfl⟩ := hc2
    subst hc1
    try simp 
    repeat' (first
      | (refine CallX.pure (hch) (by simp) (by simp) ?_; try simp )
      | (refine CallK.intro (hch) (by simp) (by simp) ?_; try simp )
      | (refine CallG.intro (fun _ => hch) (by simp) (by simp) ?_; try simp )
      | ((with_reducible refine PreK.intro ?_ ?_); (next => (first | omega | (intros; first | omega | (refine ⟨by omega, ?_⟩; repeat (first | assumption | constructor)) | assumption))); intro _; try simp )
      | fail)
    refine CondK.intro (fun h1 => ?_) (fun h1 => ?_)
    · try simp 
      repeat' (first
        | ((with_reducible refine PreK.intro ?_ ?_); (next => (first | omega | (intros; first | omega | (refine ⟨by omega, ?_⟩; repeat (first | assumption | constructor)) | assumption))); intro _; try simp )
        | fail)
      apply hr
      simp
    · simp at h1
  | some c =>
    rw [hcm] at hch
    simp at hch
    have hco := choiceM_ok hcm
    have hap := rafter_c s v ⟨c.rule, c.place⟩ hs hv hco.1 hco.2.1
    have hnl := nextW_len s v c
    have hnw : (applyM (el s (⟨c.rule, c.place⟩ : Step).rule.toNat) v (⟨c.rule, c.place⟩ : Step).place).1 = nextW s v c := rfl
    rw [hnw] at hap
    try simp 
    repeat' (first
      | (refine CallX.pure (hch) (by simp) (by simp) ?_; try simp )
      | (refine CallK.intro (hch) (by simp) (by simp) ?_; try simp )
      | (refine CallG.intro (fun _ => hch) (by simp) (by simp) ?_; try simp )
      | ((with_reducible refine PreK.intro ?_ ?_); (next => (first | omega | (intros; first | omega | (refine ⟨by omega, ?_⟩; repeat (first | assumption | constructor)) | assumption))); intro _; try simp )
      | fail)
    refine CondK.intro (fun h1 => ?_) (fun h1 => ?_)
    · simp at h1
    · try simp 
      repeat' (first
        | ((with_reducible refine PreK.intro ?_ ?_); (next => (first | omega | (intros; first | omega | (refine ⟨by omega, ?_⟩; repeat (first | assumption | constructor)) | assumption))); intro _; try simp )
        | fail)
      refine CondK.intro (fun h2 => ?_) (fun h2 => ?_)
      · have hn0 : n = 0 := by simp at h2; omega
        subst hn0
        rw [deriveR_zero hcm] at hc1 hc2
        simp at hc1 hc2
        obtain ⟨rfl, rfl⟩ := hc2
        try simp 
        repeat' (first
          | ((with_reducible refine PreK.intro ?_ ?_); (next => (first | omega | (intros; first | omega | (refine ⟨by omega, ?_⟩; repeat (first | assumption | constructor)) | assumption))); intro _; try simp )
          | fail)
        apply hr
        simp [hc1]
      · have hn0 : acc.length ≠ 60 := by simp at h2; omega
        obtain ⟨m, rfl⟩ : ∃ m, n = m + 1 := ⟨n - 1, by omega⟩
        rw [deriveR_succ hcm] at hc1 hc2
        try simp 
        repeat' (first
          | (refine CallX.pure (hap) (by simp) (by simp) ?_; try simp )
          | (refine CallK.intro (hap) (by simp) (by simp) ?_; try simp )
          | (refine CallG.intro (fun _ => hap) (by simp) (by simp) ?_; try simp )
          | ((with_reducible refine PreK.intro ?_ ?_); (next => (first | omega | (intros; first | omega | (refine ⟨by omega, ?_⟩; repeat (first | assumption | constructor)) | assumption))); intro _; try simp )
          | fail)
        exact hq (m, ver + 1, nextW s v c, acc ++ [c]) _ ⟨by simp; omega, by dsimp only; omega, by simpa using hc1, by rw [Prod.ext_iff]; simpa using hc2⟩ (by dsimp only; omega) (by simp)
theorem deriveR_len (s : List Rule) (gs : List Int) : ∀ (n : Nat) (w : List Int), w.length ≤ 1000 → (deriveR s gs n w).2.1.length ≤ 1000
  | n, w, hw => by
    cases hc : choiceM s w gs with
    | none => rw [deriveR_none hc]; exact hw
    | some c =>
      match n with
      | 0 => rw [deriveR_zero hc]; exact hw
      | n + 1 =>
        rw [deriveR_succ hc]
        exact deriveR_len s gs n _ (by have := nextW_len s w c; omega)
theorem deriveR_num (s : List Rule) (gs : List Int) : ∀ (n : Nat) (w : List Int), (deriveR s gs n w).1.length ≤ n
  | n, w => by
    cases hc : choiceM s w gs with
    | none => rw [deriveR_none hc]; simp
    | some c =>
      match n with
      | 0 => rw [deriveR_zero hc]; simp
      | n + 1 =>
        rw [deriveR_succ hc]
        have := deriveR_num s gs n (nextW s w c)
        simp; omega
theorem choice_eq (a b : Choice) : (a = b) ↔ (a.rule = b.rule ∧ a.place = b.place ∧ a.ground = b.ground) := by
  cases a; cases b; simp
theorem rDerive_c (s : List Rule) (w gs : List Int) (hs : Sys.small s) (hw : w.length ≤ 1000) (hgl : gs.length ≤ 1000) :
    CallP Try.prog 30 [rulesV s, ints w, ints gs] (.tup [choicesV (DeriveR s w gs).1, ints (DeriveR s w gs).2.1, iv (DeriveR s w gs).2.2]) := by
  refine C30 (by simp) ?_
  simp [A30]
  try simp 
  repeat' (first
    | (refine CallX.pure (rall_c s w gs hs hw hgl) (by simp) (by simp) ?_; try simp )
    | (refine CallK.intro (rall_c s w gs hs hw hgl) (by simp) (by simp) ?_; try simp )
    | (refine CallG.intro (fun _ => rall_c s w gs hs hw hgl) (by simp) (by simp) ?_; try simp )
    | ((with_reducible refine PreK.intro ?_ ?_); (next => (first | omega | (intros; first | omega | (refine ⟨by omega, ?_⟩; repeat (first | assumption | constructor)) | assumption))); intro _; try simp )
    | fail)
  refine CondK.intro (fun h1 => ?_) (fun h1 => ?_)
  · simp at h1
    simp [DeriveR, h1]
  · simp at h1
    have hd := rderive_c s w gs hs hw (gErr_ok (orderErr_zero h1).2) hgl
    try simp 
    repeat' (first
      | (refine CallX.pure (hd) (by simp) (by simp) ?_; try simp )
      | (refine CallK.intro (hd) (by simp) (by simp) ?_; try simp )
      | (refine CallG.intro (fun _ => hd) (by simp) (by simp) ?_; try simp )
      | ((with_reducible refine PreK.intro ?_ ?_); (next => (first | omega | (intros; first | omega | (refine ⟨by omega, ?_⟩; repeat (first | assumption | constructor)) | assumption))); intro _; try simp )
      | fail)
    refine CondK.intro (fun h2 => ?_) (fun h2 => ?_)
    · try simp at h2
      simp [DeriveR, h1, h2]
    · try simp at h2
      have hdl := deriveR_len s gs 60 w hw
      try simp 
      repeat' (first
        | ((with_reducible refine PreK.intro ?_ ?_); (next => (first | omega | (intros; first | omega | (refine ⟨by omega, ?_⟩; repeat (first | assumption | constructor)) | assumption))); intro _; try simp )
        | fail)
      simp [DeriveR, h1, h2]
theorem sameChoices_c (a b : List Choice) (ha : a.length ≤ 1000) : CallP Try.prog 32 [choicesV a, choicesV b] (bv (decide (a = b))) := by
  refine C32 (by simp) ?_
  generalize hR : decide (a = b) = R
  simp [A32]
  refine CondK.intro (fun h => ?_) (fun h => ?_)
  · simp at h
    have : a ≠ b := fun e => h (by rw [e])
    simp [this] at hR
    simp [hR]
  · simp at h
    try simp 
    refine LoopK.by (fun i : Nat => ⟨[(5, iv i), (0, choicesV a), (1, choicesV b)], []⟩) (fun i => a.length - i) (fun i => i ≤ a.length ∧ decide (a.drop i = b.drop i) = R) 0 (by simpa using hR) (by simp) ?_
    intro i Q' ⟨hi, hc⟩ hq he hr
    try simp 
    refine CondK.intro (fun h2 => ?_) (fun h2 => ?_)
    · simp at h2
      have h2b : i < b.length := by omega
      rw [drop_cons a i h2, drop_cons b i h2b] at hc
      try simp [h2, h2b]
      repeat' (first
        | ((with_reducible refine PreK.intro ?_ ?_); (next => (first | omega | (intros; first | omega | (refine ⟨by omega, ?_⟩; repeat (first | assumption | constructor)) | assumption))); intro _; try simp [h2, h2b])
        | fail)
      have hcond : (!decide ((el a i).rule = (el b i).rule) || (!decide ((el a i).place = (el b i).place) || !decide ((el a i).ground = (el b i).ground))) = !decide (el a i = el b i) := by
        have e1 : decide (el a i = el b i) = (decide ((el a i).rule = (el b i).rule) && (decide ((el a i).place = (el b i).place) && decide ((el a i).ground = (el b i).ground))) := by rw [Bool.eq_iff_iff]; simp [choice_eq]
        rw [e1]
        simp
      rw [hcond]
      refine CondK.intro (fun h3 => ?_) (fun h3 => ?_)
      · have h4 : el a i ≠ el b i := by simpa using h3
        simp [h4] at hc
        try simp 
        repeat' (first
          | ((with_reducible refine PreK.intro ?_ ?_); (next => (first | omega | (intros; first | omega | (refine ⟨by omega, ?_⟩; repeat (first | assumption | constructor)) | assumption))); intro _; try simp )
          | fail)
        apply hr
        simp [hc]
      · have h4 : el a i = el b i := by simpa using h3
        simp [h4] at hc
        try simp 
        repeat' (first
          | ((with_reducible refine PreK.intro ?_ ?_); (next => (first | omega | (intros; first | omega | (refine ⟨by omega, ?_⟩; repeat (first | assumption | constructor)) | assumption))); intro _; try simp )
          | fail)
        exact hq (i + 1) _ ⟨by omega, by simpa using hc⟩ (by omega) (by simp)
    · simp at h2
      rw [List.drop_eq_nil_of_le (by omega), List.drop_eq_nil_of_le (by omega)] at hc
      simp at hc
      try simp 
      apply he
      simp [hc]
end Go.Proofs.Ytaooenmkofjafaa
end

section
/- Contracts: the checks of the statements on grounds; the statement OrderDerives. -/
namespace Go.Proofs.Ytaooenmkofjafaa
open Go.Abs Go
set_option maxRecDepth 20000
set_option maxHeartbeats 2000000
attribute [local irreducible] PreK CondK CallK CallG CallX LoopK
attribute [local simp] avsEq avEq akind teq vkind vEq

/-- A system, a word and grounds. -/
structure Case where
  rules : List Rule
  word : List Int
  grounds : List Int
@[simp] def caseV (x : Case) : AV := .agg [rulesV x.rules, ints x.word, ints x.grounds]
def longR (r : Rule) : Bool := decide (50 < r.to.length) || (decide (50 < r.left.length) || decide (50 < r.right.length))
def longC (x : Case) : Bool := x.rules.any longR || (decide (50 < x.rules.length) || (decide (50 < x.word.length) || decide (50 < x.grounds.length)))
theorem Long_c (x : Case) (h : x.rules.length ≤ big) : CallP Try.prog 27 [caseV x] (bv (longC x)) := by
  refine C27 (by simp) ?_
  have hb : x.rules.length ≤ 281474976710656 := h
  generalize hR : longC x = R
  unfold longC at hR
  simp [A27]
  refine LoopK.by (fun i : Nat => ⟨[(3, iv i), (1, .pt 1 1 0 0)], [(1, some ⟨3, [caseV x], 1, true⟩)]⟩) (fun i => x.rules.length - i)
    (fun i => i ≤ x.rules.length ∧ ((x.rules.drop i).any longR || (decide (50 < x.rules.length) || (decide (50 < x.word.length) || decide (50 < x.grounds.length)))) = R) 0 (by simpa using hR) (by simp) ?_
  intro i Q' ⟨hi, hc⟩ hq he hr
  try simp 
  refine CondK.intro (fun h1 => ?_) (fun h1 => ?_)
  · simp at h1
    rw [drop_cons x.rules i h1, List.any_cons] at hc
    try simp [h1]
    repeat' (first
      | ((with_reducible refine PreK.intro ?_ ?_); (next => (first | omega | (intros; first | omega | (refine ⟨by omega, ?_⟩; repeat (first | assumption | constructor)) | assumption))); intro _; try simp [h1])
      | fail)
    have hcond : (decide ((50 : Int) < ((el x.rules i).to.length : Int)) || decide ((50 : Int) < ((el x.rules i).left.length : Int)) || decide ((50 : Int) < ((el x.rules i).right.length : Int))) = longR (el x.rules i) := by
      have e : ∀ n : Nat, decide ((50 : Int) < (n : Int)) = decide (50 < n) := fun n => by congr 1; simp only [eq_iff_iff]; omega
      simp [longR, Bool.or_assoc, e]
    rw [hcond]
    refine CondK.intro (fun h2 => ?_) (fun h2 => ?_)
    · try simp at h2
      simp [h2] at hc
      try simp 
      repeat' (first
        | ((with_reducible refine PreK.intro ?_ ?_); (next => (first | omega | (intros; first | omega | (refine ⟨by omega, ?_⟩; repeat (first | assumption | constructor)) | assumption))); intro _; try simp )
        | fail)
      apply hr
      simp [hc]
    · try simp at h2
      simp [h2] at hc
      try simp 
      repeat' (first
        | ((with_reducible refine PreK.intro ?_ ?_); (next => (first | omega | (intros; first | omega | (refine ⟨by omega, ?_⟩; repeat (first | assumption | constructor)) | assumption))); intro _; try simp )
        | fail)
      exact hq (i + 1) _ ⟨by omega, by simpa using hc⟩ (by omega) (by simp)
  · simp at h1
    rw [List.drop_eq_nil_of_le (by omega)] at hc
    simp at hc
    try simp 
    apply he
    try simp 
    repeat' (first
      | ((with_reducible refine PreK.intro ?_ ?_); (next => (first | omega | (intros; first | omega | (refine ⟨by omega, ?_⟩; repeat (first | assumption | constructor)) | assumption))); intro _; try simp )
      | fail)
    have e : ∀ n : Nat, decide ((50 : Int) < (n : Int)) = decide (50 < n) := fun n => by congr 1; simp only [eq_iff_iff]; omega
    rw [← hc]
    simp [Bool.or_assoc, e]
theorem sane_c : CallP Try.prog 28 [] (bv true) := by
  refine C28 (by simp) ?_
  have hsm : Sys.small [⟨0, [1], [], []⟩, ⟨0, [2], [], []⟩] := ⟨by simp, by intro r hr; simp at hr; rcases hr with rfl | rfl <;> exact ⟨by simp, by simp, by simp⟩⟩
  have hd := Derive_c [⟨0, [1], [], []⟩, ⟨0, [2], [], []⟩] [0, 0] [3, 4] hsm (by simp) (by simp)
  have hv : DeriveR [⟨0, [1], [], []⟩, ⟨0, [2], [], []⟩] [0, 0] [3, 4] = ([⟨1, 0, 4⟩, ⟨1, 1, 4⟩], [2, 2], 0) := by decide
  rw [hv] at hd
  simp [A28]
  simp at hd
  refine CallX.pure (CallP.weak (by simpa [weakL, weak] using hd)) (by simp) (by simp) ?_
  have h1 := sameChoices_c [⟨1, 0, 4⟩, ⟨1, 1, 4⟩] [⟨1, 0, 4⟩, ⟨1, 1, 4⟩] (by simp)
  have h2 := sameInts_c [2, 2] [2, 2] (by simp [big])
  try simp 
  repeat' (first
    | (refine CallX.pure (h1) (by simp) (by simp) ?_; try simp )
    | (refine CallK.intro (h1) (by simp) (by simp) ?_; try simp )
    | (refine CallG.intro (fun _ => h1) (by simp) (by simp) ?_; try simp )
    | (refine CallX.pure (h2) (by simp) (by simp) ?_; try simp )
    | (refine CallK.intro (h2) (by simp) (by simp) ?_; try simp )
    | (refine CallG.intro (fun _ => h2) (by simp) (by simp) ?_; try simp )
    | ((with_reducible refine PreK.intro ?_ ?_); (next => (first | omega | (intros; first | omega | (refine ⟨by omega, ?_⟩; repeat (first | assumption | constructor)) | assumption))); intro _; try simp )
    | fail)
end Go.Proofs.Ytaooenmkofjafaa
end

section
/- The statement OrderDerives as a contract. -/
namespace Go.Proofs.Ytaooenmkofjafaa
open Go.Abs Go
set_option maxRecDepth 20000
set_option maxHeartbeats 2000000
attribute [local irreducible] PreK CondK CallK CallG CallX LoopK
attribute [local simp] avsEq avEq akind teq vkind vEq

theorem longC_small {x : Case} (h : longC x = false) : Sys.small x.rules ∧ x.word.length ≤ 1000 ∧ x.grounds.length ≤ 1000 ∧ x.rules.length ≤ 50 ∧ x.word.length ≤ 50 ∧ x.grounds.length ≤ 50 := by
  unfold longC at h
  simp only [Bool.or_eq_false_iff, decide_eq_false_iff_not, List.any_eq_false, longR] at h
  obtain ⟨h1, h2, h3, h4⟩ := h
  refine ⟨⟨by omega, fun r hr => ?_⟩, by omega, by omega, by omega, by omega, by omega⟩
  have := h1 r hr
  simp at this
  exact ⟨by omega, by omega, by omega⟩
theorem DeriveR_len (s : List Rule) (w gs : List Int) (hw : w.length ≤ 1000) : (DeriveR s w gs).1.length ≤ 1000 ∧ (DeriveR s w gs).2.1.length ≤ 1000 := by
  unfold DeriveR
  split
  · simp
  · split
    · exact ⟨by have := deriveR_num s gs 60 w; simp only; omega, deriveR_len s gs 60 w hw⟩
    · simp
theorem lawOrderDerives_c (x : Case) (h : x.rules.length ≤ big) : CallP Try.prog 3 [caseV x] (bv true) := by
  refine C3 (by simp) ?_
  simp [A3]
  refine CallX.pure (by simpa using Long_c x h) (by simp) (by simp) ?_
  try simp 
  refine CondK.intro (fun h1 => ?_) (fun h1 => ?_)
  · try simp 
    repeat' (first
      | (refine CallX.pure (sane_c) (by simp) (by simp) ?_; try simp )
      | (refine CallK.intro (sane_c) (by simp) (by simp) ?_; try simp )
      | (refine CallG.intro (fun _ => sane_c) (by simp) (by simp) ?_; try simp )
      | ((with_reducible refine PreK.intro ?_ ?_); (next => (first | omega | (intros; first | omega | (refine ⟨by omega, ?_⟩; repeat (first | assumption | constructor)) | assumption))); intro _; try simp )
      | fail)
  · try simp at h1
    obtain ⟨hs, hw, hg, _⟩ := longC_small h1
    obtain ⟨hl1, hl2⟩ := DeriveR_len x.rules x.word x.grounds hw
    try simp 
    repeat' (first
      | (refine CallX.pure (Derive_c x.rules x.word x.grounds hs hw hg) (by simp) (by simp) ?_; try simp )
      | (refine CallK.intro (Derive_c x.rules x.word x.grounds hs hw hg) (by simp) (by simp) ?_; try simp )
      | (refine CallG.intro (fun _ => Derive_c x.rules x.word x.grounds hs hw hg) (by simp) (by simp) ?_; try simp )
      | ((with_reducible refine PreK.intro ?_ ?_); (next => (first | omega | (intros; first | omega | (refine ⟨by omega, ?_⟩; repeat (first | assumption | constructor)) | assumption))); intro _; try simp )
      | fail)
    try simp 
    repeat' (first
      | (refine CallX.pure (rDerive_c x.rules x.word x.grounds hs hw hg) (by simp) (by simp) ?_; try simp )
      | (refine CallK.intro (rDerive_c x.rules x.word x.grounds hs hw hg) (by simp) (by simp) ?_; try simp )
      | (refine CallG.intro (fun _ => rDerive_c x.rules x.word x.grounds hs hw hg) (by simp) (by simp) ?_; try simp )
      | ((with_reducible refine PreK.intro ?_ ?_); (next => (first | omega | (intros; first | omega | (refine ⟨by omega, ?_⟩; repeat (first | assumption | constructor)) | assumption))); intro _; try simp )
      | fail)
    try simp 
    repeat' (first
      | (refine CallX.pure (Form_c x.rules x.word x.grounds hs hw hg) (by simp) (by simp) ?_; try simp )
      | (refine CallK.intro (Form_c x.rules x.word x.grounds hs hw hg) (by simp) (by simp) ?_; try simp )
      | (refine CallG.intro (fun _ => Form_c x.rules x.word x.grounds hs hw hg) (by simp) (by simp) ?_; try simp )
      | ((with_reducible refine PreK.intro ?_ ?_); (next => (first | omega | (intros; first | omega | (refine ⟨by omega, ?_⟩; repeat (first | assumption | constructor)) | assumption))); intro _; try simp )
      | fail)
    try simp 
    repeat' (first
      | (refine CallX.pure (sameChoices_c (DeriveR x.rules x.word x.grounds).1 (DeriveR x.rules x.word x.grounds).1 hl1) (by simp) (by simp) ?_; try simp )
      | (refine CallK.intro (sameChoices_c (DeriveR x.rules x.word x.grounds).1 (DeriveR x.rules x.word x.grounds).1 hl1) (by simp) (by simp) ?_; try simp )
      | (refine CallG.intro (fun _ => sameChoices_c (DeriveR x.rules x.word x.grounds).1 (DeriveR x.rules x.word x.grounds).1 hl1) (by simp) (by simp) ?_; try simp )
      | (refine CallX.pure (sameInts_c (DeriveR x.rules x.word x.grounds).2.1 (DeriveR x.rules x.word x.grounds).2.1 (big_of hl2)) (by simp) (by simp) ?_; try simp )
      | (refine CallK.intro (sameInts_c (DeriveR x.rules x.word x.grounds).2.1 (DeriveR x.rules x.word x.grounds).2.1 (big_of hl2)) (by simp) (by simp) ?_; try simp )
      | (refine CallG.intro (fun _ => sameInts_c (DeriveR x.rules x.word x.grounds).2.1 (DeriveR x.rules x.word x.grounds).2.1 (big_of hl2)) (by simp) (by simp) ?_; try simp )
      | (refine CallX.pure (sane_c) (by simp) (by simp) ?_; try simp )
      | (refine CallK.intro (sane_c) (by simp) (by simp) ?_; try simp )
      | (refine CallG.intro (fun _ => sane_c) (by simp) (by simp) ?_; try simp )
      | ((with_reducible refine PreK.intro ?_ ?_); (next => (first | omega | (intros; first | omega | (refine ⟨by omega, ?_⟩; repeat (first | assumption | constructor)) | assumption))); intro _; try simp )
      | fail)
end Go.Proofs.Ytaooenmkofjafaa
end
