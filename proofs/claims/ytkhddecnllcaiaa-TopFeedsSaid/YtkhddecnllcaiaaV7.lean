/- Part 7 of the proof: the value layer and the contracts of the functions that the statement reaches; proved without conditions beyond those each theorem states. -/
import Derived.Test.YtkhddecnllcaiaaV5
import Derived.Test.YtkhddecnllcaiaaV6
set_option linter.unusedSimpArgs false
set_option linter.unusedVariables false

section
/- Contracts: feed's Reach, Ends, Next. -/
namespace Go.Proofs.Ytkhddecnllcaiaa
open Go.Abs Go
set_option maxRecDepth 20000
set_option maxHeartbeats 2000000
attribute [local irreducible] PreK CondK CallK CallG CallX LoopK
attribute [local simp] avsEq avEq akind teq vkind vEq

theorem weak_intsV (l : List Int) : weak (ints l) = ints l := by simp [weak, Abs.weakL_map (f := iv) (fun _ => rfl)]
theorem weak_ruleV (r : Rule) : weak (ruleV r) = ruleV r := by simp [weak, weakL, Abs.weakL_map (f := iv) (fun _ => rfl)]
theorem weak_stepV (x : Step) : weak (stepV x) = stepV x := by simp [weak, weakL]
theorem weak_graph (k : Bool) (s : List Rule) (g : Gr) : weak (gV k s g) = graphV s g := by
  unfold gV graphV
  simp only [rulesV, wordsV, ints, stepsV, weak, weakL, Abs.weakL_map weak_ruleV, Abs.weakL_map weak_intsV, Abs.weakL_map weak_stepV, Abs.weakL_map (f := iv) (fun _ => rfl)]
theorem reach_c (s : List Rule) (w : List Int) (h : Sys.small s) (hs : sysErr s = 0) (hw : wordErr w = 0) : CallP Try.prog 69 [rulesV s, ints w] (reachV s (reachG s w)) := by
  have hx := (reach_x s w h hs hw).weakR
  have e : ∀ R, weakR (reachX s R) = reachV s R := by
    intro R
    cases R with
    | none => rfl
    | some g => simp only [reachX, reachV, weakR, weakRL, weak_graph]; rfl
  rwa [e] at hx
def reachedV (s : List Rule) (w : Word) : AV := if swErr s w ≠ 0 then .tup [.raw (.pointer none), iv (swErr s w)] else reachV s (reachG s w)
theorem reached_c (s : List Rule) (w : List Int) (h : Sys.small s) (hw : w.length ≤ 1000) : CallP Try.prog 56 [rulesV s, ints w] (reachedV s w) := by
  refine C56 (by simp) ?_
  have hck := check_c s [w] h (by simp) (by simpa using hw)
  rw [check_one] at hck
  simp [A56]
  refine CallX.pure (CallP.weak (by simpa [weakL, weak] using hck)) (by simp) (by simp) ?_
  try simp 
  refine CondK.intro (fun h1 => ?_) (fun h1 => ?_)
  · simp at h1
    simp [reachedV, h1]
  · simp at h1
    have hrc := reach_c s w h (swErr_zero h1).1 (swErr_zero h1).2
    have e : reachedV s w = reachV s (reachG s w) := by simp [reachedV, h1]
    rw [e]
    cases hg : reachG s w with
    | none =>
      rw [hg] at hrc
      simp only [reachV] at hrc ⊢
      try simp 
      repeat' (first
        | (refine CallX.pure (hrc) (by simp) (by simp) ?_; try simp )
        | (refine CallK.intro (hrc) (by simp) (by simp) ?_; try simp )
        | (refine CallG.intro (fun _ => hrc) (by simp) (by simp) ?_; try simp )
        | ((with_reducible refine PreK.intro ?_ ?_); (next => (first | omega | (intros; first | omega | (refine ⟨by omega, ?_⟩; repeat (first | assumption | constructor)) | assumption))); intro _; try simp )
        | fail)
    | some g =>
      rw [hg] at hrc
      simp only [reachV] at hrc ⊢
      try simp 
      repeat' (first
        | (refine CallX.pure (hrc) (by simp) (by simp) ?_; try simp )
        | (refine CallK.intro (hrc) (by simp) (by simp) ?_; try simp )
        | (refine CallG.intro (fun _ => hrc) (by simp) (by simp) ?_; try simp )
        | ((with_reducible refine PreK.intro ?_ ?_); (next => (first | omega | (intros; first | omega | (refine ⟨by omega, ?_⟩; repeat (first | assumption | constructor)) | assumption))); intro _; try simp )
        | fail)
/-- The words, each once, in order. -/
def uniq (l : List Word) : List Word := compW (sortW l)
theorem uniq_len (l : List Word) : (uniq l).length ≤ l.length := by
  unfold uniq
  have := (sortW_perm l).length_eq
  rw [← this]
  cases sortW l with
  | nil => simp [compW]
  | cons x m => simp only [compW, List.length_cons]; have := compF_num x m; omega
def NextR (s : List Rule) (w : Word) : List Word := uniq ((movesM s w).map (·.word))
theorem next_c (s : List Rule) (w : List Int) (h : Sys.small s) (hs : sysErr s = 0) (hw : wordErr w = 0) : CallP Try.prog 60 [rulesV s, ints w] (wordsV (NextR s w)) := by
  refine C60 (by simp) ?_
  have hmc := moves_c s w h hs hw
  have hmr := fun m hm => @moves_right s w hs hw m hm
  have hml := movesM_len hs hw
  unfold NextR
  generalize movesM s w = ms at hmc hmr hml
  simp [A60]
  try simp 
  repeat' (first
    | (refine CallX.pure (hmc) (by simp) (by simp) ?_; try simp )
    | (refine CallK.intro (hmc) (by simp) (by simp) ?_; try simp )
    | (refine CallG.intro (fun _ => hmc) (by simp) (by simp) ?_; try simp )
    | ((with_reducible refine PreK.intro ?_ ?_); (next => (first | omega | (intros; first | omega | (refine ⟨by omega, ?_⟩; repeat (first | assumption | constructor)) | assumption))); intro _; try simp )
    | fail)
  refine LoopK.by (ι := Nat × Nat) (fun x => ⟨[(12, iv x.1), (11, iv ms.length), (10, movesV ms), (5, .sl 5 x.2 0 x.1)], [(5, some ⟨1, (ms.take x.1).map (fun m => ints m.word), x.2, false⟩)]⟩) (fun x => ms.length - x.1) (fun x => x.1 ≤ ms.length) (0, 1) (by simp) (by simp) ?_
  intro ⟨i, v⟩ Q' hi hq he hr
  dsimp only at hi
  try simp 
  refine CondK.intro (fun h1 => ?_) (fun h1 => ?_)
  · simp at h1
    repeat (refine PreK.intro (by first | omega | (intros; first | omega | (refine ⟨by omega, ?_⟩; simp_all; done) | (simp_all; done) | (simp_all; omega))) fun _ => ?_; (try simp [h1]))
    refine hq (i + 1, v + 1) _ (by dsimp only; omega) (by dsimp only; omega) ?_
    have e2 : List.take (i + 1) (ms.map fun m => ints m.word) = List.take i (ms.map fun m => ints m.word) ++ [ints (el ms i).word] := by rw [← List.map_take, ← List.map_take, take_succ ms i h1]; simp
    simp only [ints] at e2
    simp [List.take_take, e2]
  · simp at h1
    have hil : i = ms.length := by omega
    subst hil
    try simp 
    apply he
    have hsl := sorted_L (ms.map (·.word)) (by simp; omega) (fun x hx => by
      obtain ⟨m, hm, rfl⟩ := List.mem_map.1 hx
      have := (wordErr_zero (hmr m hm)).1
      omega)
    have hsl2 : CallL Try.prog 58 [] 1 (ms.map fun m => ints m.word) [] (.part (uniq (ms.map (·.word))).length) ((uniq (ms.map (·.word))).map ints ++ List.replicate (ms.length - (uniq (ms.map (·.word))).length) (.seq 1 [] true)) := by
      simpa [uniq, List.map_map, Function.comp_def] using hsl
    generalize uniq (ms.map (·.word)) = U at hsl2
    try simp 
    refine CallX.lend [] (id := 5) (ver := v) (n := ms.length) (b := ⟨1, ms.map fun m => ints m.word, v, false⟩) [] (.part U.length) _ (by simp) (by simp) (by simp) (by simp) (by simp) (by simp) (by simp) (by simpa using hsl2) ?_
    try simp 
def NextE (s : List Rule) (w : Word) : List Word × Int := if swErr s w ≠ 0 then ([], swErr s w) else (NextR s w, 0)
theorem Next_c (s : List Rule) (w : List Int) (h : Sys.small s) (hw : w.length ≤ 1000) : CallP Try.prog 27 [rulesV s, ints w] (.tup [wordsV (NextE s w).1, iv (NextE s w).2]) := by
  refine C27 (by simp) ?_
  have hck := check_c s [w] h (by simp) (by simpa using hw)
  rw [check_one] at hck
  simp [A27]
  refine CallX.pure (CallP.weak (by simpa [weakL, weak] using hck)) (by simp) (by simp) ?_
  try simp 
  refine CondK.intro (fun h1 => ?_) (fun h1 => ?_)
  · simp at h1
    simp [NextE, h1]
  · simp at h1
    try simp 
    repeat' (first
      | (refine CallX.pure (next_c s w h (swErr_zero h1).1 (swErr_zero h1).2) (by simp) (by simp) ?_; try simp )
      | (refine CallK.intro (next_c s w h (swErr_zero h1).1 (swErr_zero h1).2) (by simp) (by simp) ?_; try simp )
      | (refine CallG.intro (fun _ => next_c s w h (swErr_zero h1).1 (swErr_zero h1).2) (by simp) (by simp) ?_; try simp )
      | ((with_reducible refine PreK.intro ?_ ?_); (next => (first | omega | (intros; first | omega | (refine ⟨by omega, ?_⟩; repeat (first | assumption | constructor)) | assumption))); intro _; try simp )
      | fail)
    simp [NextE, h1]
def ReachE (s : List Rule) (w : Word) : List Word × Int := if swErr s w ≠ 0 then ([], swErr s w) else match reachG s w with
  | none => ([], 3)
  | some g => (uniq g.ws, 0)
theorem addG_ok {s : List Rule} {i : Nat} : ∀ {l : List Move} {g g' : Gr}, (∀ m ∈ l, wordErr m.word = 0) → g.ok → addG i g l = some g' → g'.ok
  | [], g, g', _, h, e => by
    simp only [addG, Option.some.injEq] at e
    subst e; exact h
  | m :: l, g, g', hl, h, e => by
    rw [addG] at e
    split at e
    · exact addG_ok (s := s) (fun x hx => hl x (by simp [hx])) h e
    · split at e
      · cases e
      · rename_i h3
        exact addG_ok (s := s) (fun x hx => hl x (by simp [hx])) (h.push (hl m (by simp)) h3) e
theorem closeG_ok {s : List Rule} (hs : sysErr s = 0) : ∀ {n i : Nat} {g g' : Gr}, g.ok → closeG s n i g = some g' → g'.ok
  | 0, i, g, g', h, e => by
    simp only [closeG, Option.some.injEq] at e
    subst e; exact h
  | n + 1, i, g, g', h, e => by
    rw [closeG] at e
    split at e
    · rename_i hi
      cases ha : addG i g (movesM s (el g.ws i)) with
      | none => rw [ha] at e; cases e
      | some g2 =>
        rw [ha] at e
        exact closeG_ok hs (addG_ok (s := s) (fun m hm => moves_right hs (h.fine _ (el_mem_of g.ws i hi)) hm) h ha) e
    · simp only [Option.some.injEq] at e
      subst e; exact h
theorem reachG_ok {s : List Rule} {w : Word} {g : Gr} (h : swErr s w = 0) (e : reachG s w = some g) : g.ok := closeG_ok (swErr_zero h).1 (Gr.start (swErr_zero h).2) e
theorem Reach_c (s : List Rule) (w : List Int) (h : Sys.small s) (hw : w.length ≤ 1000) : CallP Try.prog 19 [rulesV s, ints w] (.tup [wordsV (ReachE s w).1, iv (ReachE s w).2]) := by
  refine C19 (by simp) ?_
  have hrc := reached_c s w h hw
  by_cases h1 : swErr s w = 0
  · have e1 : reachedV s w = reachV s (reachG s w) := by simp [reachedV, h1]
    rw [e1] at hrc
    cases hg : reachG s w with
    | none =>
      rw [hg] at hrc
      have e2 : ReachE s w = ([], 3) := by simp [ReachE, h1, hg]
      rw [e2]
      simp only [reachV] at hrc
      simp [A19]
      try simp 
      repeat' (first
        | (refine CallX.pure (hrc) (by simp) (by simp) ?_; try simp )
        | (refine CallK.intro (hrc) (by simp) (by simp) ?_; try simp )
        | (refine CallG.intro (fun _ => hrc) (by simp) (by simp) ?_; try simp )
        | ((with_reducible refine PreK.intro ?_ ?_); (next => (first | omega | (intros; first | omega | (refine ⟨by omega, ?_⟩; repeat (first | assumption | constructor)) | assumption))); intro _; try simp )
        | fail)
      refine CondK.intro (fun h2 => ?_) (fun h2 => ?_)
      · try simp 
        repeat' (first
          | ((with_reducible refine PreK.intro ?_ ?_); (next => (first | omega | (intros; first | omega | (refine ⟨by omega, ?_⟩; repeat (first | assumption | constructor)) | assumption))); intro _; try simp )
          | fail)
      · simp at h2
    | some g =>
      rw [hg] at hrc
      have hok := reachG_ok h1 hg
      have hnum := hok.num
      have e2 : ReachE s w = (uniq g.ws, 0) := by simp [ReachE, h1, hg]
      rw [e2]
      simp only [reachV, graphV] at hrc
      simp [A19]
      try simp 
      repeat' (first
        | (refine CallX.pure (hrc) (by simp) (by simp) ?_; try simp )
        | (refine CallK.intro (hrc) (by simp) (by simp) ?_; try simp )
        | (refine CallG.intro (fun _ => hrc) (by simp) (by simp) ?_; try simp )
        | ((with_reducible refine PreK.intro ?_ ?_); (next => (first | omega | (intros; first | omega | (refine ⟨by omega, ?_⟩; repeat (first | assumption | constructor)) | assumption))); intro _; try simp )
        | fail)
      refine CondK.intro (fun h2 => ?_) (fun h2 => ?_)
      · simp at h2
      · try simp 
        repeat' (first
          | ((with_reducible refine PreK.intro ?_ ?_); (next => (first | omega | (intros; first | omega | (refine ⟨by omega, ?_⟩; repeat (first | assumption | constructor)) | assumption))); intro _; try simp )
          | fail)
        refine LoopK.by (ι := Nat × Nat) (fun x => ⟨[(25, iv x.1), (24, iv g.ws.length), (23, wordsV g.ws), (8, .sl 8 x.2 0 x.1)], [(8, some ⟨1, (g.ws.take x.1).map ints, x.2, false⟩)]⟩) (fun x => g.ws.length - x.1) (fun x => x.1 ≤ g.ws.length) (0, 1) (by simp) (by simp) ?_
        intro ⟨i, v⟩ Q' hi hq he hr
        dsimp only at hi
        try simp 
        refine CondK.intro (fun h3 => ?_) (fun h3 => ?_)
        · simp at h3
          have hwl := (wordErr_zero (hok.fine _ (el_mem_of g.ws i h3))).1
          try simp [h3]
          repeat' (first
            | (refine CallX.pure ((clone_o (el g.ws i) (by omega)).toP) (by simp) (by simp) ?_; try simp [h3])
            | (refine CallK.intro ((clone_o (el g.ws i) (by omega)).toP) (by simp) (by simp) ?_; try simp [h3])
            | (refine CallG.intro (fun _ => (clone_o (el g.ws i) (by omega)).toP) (by simp) (by simp) ?_; try simp [h3])
            | ((with_reducible refine PreK.intro ?_ ?_); (next => (first | omega | (intros; first | omega | (refine ⟨by omega, ?_⟩; repeat (first | assumption | constructor)) | assumption))); intro _; try simp [h3])
            | fail)
          refine hq (i + 1, v + 1) _ (by dsimp only; omega) (by dsimp only; omega) ?_
          have e5 : List.take (i + 1) (g.ws.map ints) = List.take i (g.ws.map ints) ++ [ints (el g.ws i)] := by rw [← List.map_take, ← List.map_take, take_succ g.ws i h3]; simp
          simp only [ints] at e5
          simp [List.take_take, e5]
        · simp at h3
          have hil : i = g.ws.length := by omega
          subst hil
          try simp 
          apply he
          have hsl := sorted_L g.ws (by omega) (fun x hx => by
            have := (wordErr_zero (hok.fine x hx)).1
            omega)
          have hsl2 : CallL Try.prog 58 [] 1 (g.ws.map ints) [] (.part (uniq g.ws).length) ((uniq g.ws).map ints ++ List.replicate (g.ws.length - (uniq g.ws).length) (.seq 1 [] true)) := hsl
          generalize uniq g.ws = U at hsl2
          try simp 
          refine CallX.lend [] (id := 8) (ver := v) (n := g.ws.length) (b := ⟨1, g.ws.map ints, v, false⟩) [] (.part U.length) _ (by simp) (by simp) (by simp) (by simp) (by simp) (by simp) (by simp) (by simpa using hsl2) ?_
          try simp 
  · have e1 : reachedV s w = .tup [.raw (.pointer none), iv (swErr s w)] := by simp [reachedV, h1]
    rw [e1] at hrc
    have e2 : ReachE s w = ([], swErr s w) := by simp [ReachE, h1]
    rw [e2]
    simp [A19]
    try simp 
    repeat' (first
      | (refine CallX.pure (hrc) (by simp) (by simp) ?_; try simp )
      | (refine CallK.intro (hrc) (by simp) (by simp) ?_; try simp )
      | (refine CallG.intro (fun _ => hrc) (by simp) (by simp) ?_; try simp )
      | ((with_reducible refine PreK.intro ?_ ?_); (next => (first | omega | (intros; first | omega | (refine ⟨by omega, ?_⟩; repeat (first | assumption | constructor)) | assumption))); intro _; try simp )
      | fail)
    refine CondK.intro (fun h2 => ?_) (fun h2 => ?_)
    · try simp 
      repeat' (first
        | ((with_reducible refine PreK.intro ?_ ?_); (next => (first | omega | (intros; first | omega | (refine ⟨by omega, ?_⟩; repeat (first | assumption | constructor)) | assumption))); intro _; try simp )
        | fail)
    · simp at h2
      exact absurd h2 h1
end Go.Proofs.Ytkhddecnllcaiaa
end

section
/- Plain: words put in order one by one, and sorted all at once, are the same. -/
namespace Go.Proofs.Ytkhddecnllcaiaa
open Go.Abs Go

/-- A word put in its place; left out if it is there. -/
def insM (x : Word) : List Word → List Word
  | [] => [x]
  | y :: l => if bef y x then y :: insM x l else if y = x then y :: l else x :: y :: l
theorem mem_insM {x z : Word} : ∀ {l : List Word}, z ∈ insM x l ↔ z = x ∨ z ∈ l
  | [] => by simp [insM]
  | y :: l => by
    rw [insM]
    split
    · simp only [List.mem_cons, mem_insM (l := l)]
      constructor
      · rintro (h | h | h)
        · exact .inr (.inl h)
        · exact .inl h
        · exact .inr (.inr h)
      · rintro (h | h | h)
        · exact .inr (.inl h)
        · exact .inl h
        · exact .inr (.inr h)
    · split
      · rename_i h
        subst h
        simp
      · simp
theorem insM_sorted {x : Word} : ∀ {l : List Word}, sortedW l → sortedW (insM x l)
  | [], _ => by simp [insM, sortedW]
  | y :: l, h => by
    have h0 := h
    unfold sortedW at h
    rw [List.pairwise_cons] at h
    rw [insM]
    split
    · rename_i hb
      unfold sortedW
      rw [List.pairwise_cons]
      refine ⟨fun z hz => ?_, insM_sorted h.2⟩
      rcases mem_insM.1 hz with rfl | hz
      · exact hb
      · exact h.1 z hz
    · rename_i hb
      split
      · exact h0
      · rename_i hne
        have hxy : bef x y = true := by
          rcases bef_total hne with e | e
          · exact absurd e hb
          · exact e
        unfold sortedW
        rw [List.pairwise_cons]
        refine ⟨fun z hz => ?_, h0⟩
        rcases List.mem_cons.1 hz with rfl | hz
        · exact hxy
        · exact bef_trans hxy (h.1 z hz)
def insA : List Word → List Word → List Word
  | acc, [] => acc
  | acc, x :: l => insA (insM x acc) l
theorem insA_spec : ∀ (l acc : List Word), sortedW acc → sortedW (insA acc l) ∧ ∀ z, z ∈ insA acc l ↔ z ∈ acc ∨ z ∈ l
  | [], acc, h => ⟨h, fun z => by simp [insA]⟩
  | x :: l, acc, h => by
    obtain ⟨h1, h2⟩ := insA_spec l (insM x acc) (insM_sorted h)
    refine ⟨h1, fun z => ?_⟩
    rw [insA, h2, mem_insM, List.mem_cons]
    constructor
    · rintro ((h | h) | h)
      · exact .inr (.inl h)
      · exact .inl h
      · exact .inr (.inr h)
    · rintro (h | h | h)
      · exact .inl (.inr h)
      · exact .inl (.inl h)
      · exact .inr h
theorem compF_spec : ∀ (p : Word) (l : List Word), inOrder (p :: l) → sortedW (p :: compF p l) ∧ ∀ z, z ∈ p :: compF p l ↔ z ∈ p :: l
  | p, [], _ => by simp [compF, sortedW]
  | p, y :: l, h => by
    unfold inOrder at h
    rw [List.pairwise_cons] at h
    rw [compF]
    split
    · rename_i e
      subst e
      obtain ⟨h1, h2⟩ := compF_spec y l h.2
      exact ⟨h1, fun z => by rw [h2]; simp⟩
    · rename_i e
      obtain ⟨h1, h2⟩ := compF_spec y l h.2
      have hpy : bef p y = true := by
        rcases bef_total e with k | k
        · rw [h.1 y (by simp)] at k; cases k
        · exact k
      refine ⟨?_, fun z => ?_⟩
      · have h3 := h1
        unfold sortedW at h1 ⊢
        rw [List.pairwise_cons] at h1 ⊢
        refine ⟨fun z hz => ?_, h3⟩
        rcases List.mem_cons.1 hz with rfl | hz
        · exact hpy
        · exact bef_trans hpy (h1.1 z hz)
      · rw [List.mem_cons, h2, ← List.mem_cons]
theorem uniq_sorted (l : List Word) : sortedW (uniq l) ∧ ∀ z, z ∈ uniq l ↔ z ∈ l := by
  unfold uniq
  have ho := sortW_order l
  have hm : ∀ z, z ∈ sortW l ↔ z ∈ l := fun z => (sortW_perm l).mem_iff
  generalize sortW l = m at ho hm
  cases m with
  | nil => exact ⟨List.Pairwise.nil, fun z => by rw [← hm]; simp [compW]⟩
  | cons x m =>
    obtain ⟨h1, h2⟩ := compF_spec x m ho
    exact ⟨h1, fun z => by rw [← hm]; exact h2 z⟩
theorem uniq_insA {l m : List Word} (h : ∀ z, z ∈ l ↔ z ∈ m) : uniq l = insA [] m := by
  obtain ⟨h1, h2⟩ := uniq_sorted l
  obtain ⟨h3, h4⟩ := insA_spec m [] List.Pairwise.nil
  exact sorted_eq h1 h3 fun z => by rw [h2, h4]; simp [h]
end Go.Proofs.Ytkhddecnllcaiaa
end

section
/- Plain: the two searches, the program's and the reference's, find the same words. -/
namespace Go.Proofs.Ytkhddecnllcaiaa
open Go.Abs Go

theorem el_app_left {α : Type} [Inhabited α] (a b : List α) {i : Nat} (h : i < a.length) : el (a ++ b) i = el a i := by
  unfold el; rw [List.getD_eq_getElem?_getD, List.getD_eq_getElem?_getD, List.getElem?_append_left h]
theorem el_app_mid {α : Type} [Inhabited α] (a : List α) (x : α) : el (a ++ [x]) a.length = x := by
  unfold el; simp
theorem el_mapG {α β : Type} [Inhabited α] [Inhabited β] (f : α → β) (l : List α) {k : Nat} (h : k < l.length) : el (l.map f) k = f (el l k) := by
  rw [el_eq _ _ (by simpa using h), el_eq _ _ h]; simp
/-! ### the program's search -/
def nxP (s : List Rule) (v : Word) : List Word := (movesM s v).map (·.word)
/-- What whence and by which step say. -/
structure GrD (s : List Rule) (g : Gr) (ws : List WN) : Prop where
  words : g.ws = ws.map (·.1)
  frm : g.frm.length = ws.length
  stp : g.stp.length = ws.length
  root : 0 < ws.length → el g.frm 0 = -1
  back : ∀ j, 0 < j → j < ws.length → ∃ i : Nat, el g.frm j = (i : Int) ∧ i < j ∧ (el ws j).2 = (el ws i).2 + 1 ∧ (⟨el g.stp j, (el ws j).1⟩ : Move) ∈ movesM s (el ws i).1
theorem addG_F {s : List Rule} {i : Nat} : ∀ {l : List Move} {g : Gr} {ws : List WN}, GrD s g ws → i < ws.length → (∀ m ∈ l, m ∈ movesM s (el ws i).1) →
    match addG i g l, addF ((el ws i).2 + 1) ws (l.map (·.word)) with
    | some g', some ws' => GrD s g' ws'
    | none, none => True
    | _, _ => False
  | [], g, ws, h, _, _ => by simpa [addG, addF] using h
  | m :: l, g, ws, h, hi, hl => by
    rw [addG, List.map_cons, addF, h.words]
    by_cases hm : m.word ∈ ws.map (·.1)
    · rw [if_pos hm, if_pos hm]
      exact addG_F h hi fun x hx => hl x (by simp [hx])
    · rw [if_neg hm, if_neg hm, List.length_map]
      by_cases h3 : ws.length = 300
      · rw [if_pos h3, if_pos h3]; trivial
      · rw [if_neg h3, if_neg h3]
        have e : el (ws ++ [(m.word, (el ws i).2 + 1)]) i = el ws i := el_app_left _ _ hi
        have hn : GrD s ⟨ws.map (·.1) ++ [m.word], g.frm ++ [(i : Int)], g.stp ++ [m.step]⟩ (ws ++ [(m.word, (el ws i).2 + 1)]) := by
          refine ⟨by simp, by simp [h.frm], by simp [h.stp], fun _ => ?_, fun j h0 hj => ?_⟩
          · dsimp only
            rw [el_app_left _ _ (by have := h.frm; omega)]
            exact h.root (by omega)
          · dsimp only
            by_cases hjl : j < ws.length
            · obtain ⟨k, h1, h2, h4, h5⟩ := h.back j h0 hjl
              refine ⟨k, ?_, h2, ?_, ?_⟩
              · rw [el_app_left _ _ (by have := h.frm; omega)]; exact h1
              · rw [el_app_left _ _ hjl, el_app_left _ _ (by omega)]; exact h4
              · rw [el_app_left _ _ hjl, el_app_left _ _ (by omega), el_app_left _ _ (by have := h.stp; omega)]; exact h5
            · have hjl : j = ws.length := by simp at hj; omega
              subst hjl
              refine ⟨i, ?_, hi, ?_, ?_⟩
              · rw [← h.frm, el_app_mid]
              · rw [el_app_mid, e]
              · rw [el_app_mid, e, ← h.stp, el_app_mid]
                exact hl m (by simp)
        have ih := addG_F (i := i) (l := l) hn (by simp; omega) (fun x hx => by rw [e]; exact hl x (by simp [hx]))
        rw [e] at ih
        exact ih
theorem closeG_F {s : List Rule} : ∀ (n i : Nat) {g : Gr} {ws : List WN}, GrD s g ws →
    match closeG s n i g, closeF (nxP s) n i ws with
    | some g', some ws' => GrD s g' ws'
    | none, none => True
    | _, _ => False
  | 0, i, g, ws, h => by simpa [closeG, closeF] using h
  | n + 1, i, g, ws, h => by
    rw [closeG, closeF]
    have hl : g.ws.length = ws.length := by rw [h.words]; simp
    by_cases hi : i < ws.length
    · rw [if_pos (by omega), if_pos hi]
      have ew : el g.ws i = (el ws i).1 := by rw [h.words, el_mapG _ _ hi]
      have ha := addG_F (s := s) (i := i) (l := movesM s (el ws i).1) h hi (fun m hm => hm)
      rw [ew]
      unfold nxP at *
      cases h1 : addG i g (movesM s (el ws i).1) with
      | none =>
        cases h2 : addF ((el ws i).2 + 1) ws ((movesM s (el ws i).1).map (·.word)) with
        | none => trivial
        | some ws' => rw [h1, h2] at ha; exact ha.elim
      | some g' =>
        cases h2 : addF ((el ws i).2 + 1) ws ((movesM s (el ws i).1).map (·.word)) with
        | none => rw [h1, h2] at ha; exact ha.elim
        | some ws' =>
          rw [h1, h2] at ha
          exact closeG_F n (i + 1) ha
    · rw [if_neg (by omega), if_neg hi]
      exact h
theorem reachG_F (s : List Rule) (w : Word) :
    match reachG s w, closeM (nxP s) w with
    | some g', some ws' => GrD s g' ws'
    | none, none => True
    | _, _ => False := by
  refine closeG_F 301 0 ⟨rfl, rfl, rfl, fun _ => rfl, fun j h0 hj => ?_⟩
  simp at hj; omega
/-! ### the reference's search -/
def nxR (s : List Rule) (v : Word) : List Word := insA [] (nxP s v)
/-- The place of a word, or -1. -/
def findI (l : List Word) (w : Word) : Int := idxG (fun x => decide (x = w)) 0 l
theorem idxG_lt {α : Type} [Inhabited α] (p : α → Bool) : ∀ (l : List α) (k : Nat), idxG p k l = -1 ∨ ∃ i, i < l.length ∧ idxG p k l = ((k + i : Nat) : Int) ∧ p (el l i) = true
  | [], k => .inl rfl
  | x :: l, k => by
    by_cases h : p x = true
    · exact .inr ⟨0, by simp, by simp [idxG, h], by simpa [el] using h⟩
    · rcases idxG_lt p l (k + 1) with e | ⟨i, h1, h2, h3⟩
      · exact .inl (by simp [idxG, h, e])
      · refine .inr ⟨i + 1, by simp; omega, ?_, by simpa [el] using h3⟩
        rw [idxG, if_neg h, h2]
        omega
theorem findI_mem (l : List Word) (w : Word) : decide (0 ≤ findI l w) = decide (w ∈ l) := by
  unfold findI
  rw [idxG_any, Bool.eq_iff_iff]
  simp
theorem findI_spec {l : List Word} {w : Word} (h : w ∈ l) : ∃ i, i < l.length ∧ findI l w = (i : Int) ∧ el l i = w := by
  rcases idxG_lt (fun x => decide (x = w)) l 0 with e | ⟨i, h1, h2, h3⟩
  · have := findI_mem l w
    unfold findI at this
    rw [e] at this
    simp [h] at this
  · exact ⟨i, h1, by unfold findI; rw [h2]; simp, by simpa using h3⟩
structure RG where
  ws : List Word
  nx : List (List Int)
  far : List Int
/-- A list of places of words. -/
def atsOf (ws : List Word) (l : List Int) (m : List Word) : Prop := l.length = m.length ∧ ∀ q, q < m.length → ∃ k : Nat, el l q = (k : Int) ∧ k < ws.length ∧ el ws k = el m q
theorem atsOf.more {ws : List Word} {l : List Int} {m : List Word} (h : atsOf ws l m) (t : List Word) : atsOf (ws ++ t) l m := by
  refine ⟨h.1, fun q hq => ?_⟩
  obtain ⟨k, h1, h2, h3⟩ := h.2 q hq
  exact ⟨k, h1, by simp; omega, by rw [el_app_left _ _ h2]; exact h3⟩
theorem atsOf.push {ws : List Word} {l : List Int} {m : List Word} (h : atsOf ws l m) {k : Nat} (hk : k < ws.length) : atsOf ws (l ++ [(k : Int)]) (m ++ [el ws k]) := by
  refine ⟨by simp [h.1], fun q hq => ?_⟩
  by_cases hq2 : q < m.length
  · obtain ⟨j, h1, h2, h3⟩ := h.2 q hq2
    exact ⟨j, by rw [el_app_left _ _ (by have := h.1; omega)]; exact h1, h2, by rw [el_app_left _ _ hq2]; exact h3⟩
  · have hq3 : q = m.length := by simp at hq; omega
    subst hq3
    exact ⟨k, by rw [← h.1, el_app_mid], hk, by rw [el_app_mid]⟩
/-- What the reference's graph is. -/
structure RGD (s : List Rule) (i : Nat) (g : RG) (ws : List WN) : Prop where
  words : g.ws = ws.map (·.1)
  far : g.far = ws.map fun x => (x.2 : Int)
  num : g.nx.length = i
  nx : ∀ j, j < i → atsOf g.ws (el g.nx j) (nxR s (el g.ws j))
end Go.Proofs.Ytkhddecnllcaiaa
end

section
/- Plain: walks in a finite graph; the longest one, found in rounds and by going deep. -/
namespace Go.Proofs.Ytkhddecnllcaiaa
open Go.Abs Go

variable {nx : Word → List Word}
theorem ReachN.split {u v : Word} : ∀ {n m : Nat}, ReachN nx u (n + m) v → ∃ x, ReachN nx u n x ∧ ReachN nx x m v
  | n, 0, h => ⟨v, h, .zero⟩
  | n, m + 1, h => by
    cases h with
    | succ h hx =>
      obtain ⟨x, h1, h2⟩ := ReachN.split (n := n) (m := m) h
      exact ⟨x, h1, .succ h2 hx⟩
theorem ReachN.first {u v : Word} {n : Nat} (h : ReachN nx u (n + 1) v) : ∃ x, x ∈ nx u ∧ ReachN nx x n v := by
  rw [Nat.add_comm] at h
  obtain ⟨x, h1, h2⟩ := ReachN.split (n := 1) (m := n) h
  cases h1 with
  | succ h3 hx =>
    cases h3 with
    | zero => exact ⟨x, hx, h2⟩
theorem ReachN.cons {u x v : Word} {n : Nat} (hx : x ∈ nx u) (h : ReachN nx x n v) : ReachN nx u (n + 1) v := by
  have : ReachN nx u 1 x := .succ .zero hx
  have := this.trans h
  rwa [Nat.add_comm] at this
theorem ReachN.around {x : Word} {c : Nat} (h : ReachN nx x c x) : ∀ m, ReachN nx x (c * m) x
  | 0 => .zero
  | m + 1 => by rw [Nat.mul_succ]; exact (ReachN.around h m).trans h
/-- Steps go on for ever. -/
def EverR (nx : Word → List Word) (w : Word) : Prop := ∀ n, ∃ x, ReachN nx w n x
theorem ever_of_cycle {w x : Word} {k c : Nat} (h : ReachN nx w k x) (hc : 1 ≤ c) (hx : ReachN nx x c x) : EverR nx w := by
  intro n
  have h1 : ReachN nx w (k + c * n) x := h.trans (hx.around n)
  have h2 : n ≤ k + c * n := by
    have : 1 * n ≤ c * n := Nat.mul_le_mul_right n hc
    omega
  obtain ⟨d, hd⟩ : ∃ d, k + c * n = n + d := ⟨k + c * n - n, by omega⟩
  rw [hd] at h1
  obtain ⟨y, h3, _⟩ := h1.split
  exact ⟨y, h3⟩
theorem walk_list {u : Word} : ∀ {n : Nat} {v : Word}, ReachN nx u n v → ∃ l : List Word, l.length = n + 1 ∧ el l n = v ∧ (∀ i, i ≤ n → ReachN nx u i (el l i)) ∧ ∀ i j, i ≤ j → j ≤ n → ReachN nx (el l i) (j - i) (el l j)
  | 0, v, h => by
    cases h with
    | zero =>
      refine ⟨[u], rfl, rfl, fun i hi => ?_, fun i j hi hj => ?_⟩
      · have e : i = 0 := by omega
        subst e; exact .zero
      · have e : i = 0 := by omega
        have e2 : j = 0 := by omega
        subst e; subst e2; exact .zero
  | n + 1, v, h => by
    cases h with
    | succ h hx =>
      rename_i y
      obtain ⟨l, h1, h2, h3, h4⟩ := walk_list h
      have e : el (l ++ [v]) (n + 1) = v := by rw [← h1, el_app_mid]
      have e' : ∀ i, i ≤ n → el (l ++ [v]) i = el l i := fun i hi => el_app_left _ _ (by omega)
      refine ⟨l ++ [v], by simp [h1], e, fun i hi => ?_, fun i j hij hj => ?_⟩
      · by_cases hin : i ≤ n
        · rw [e' i hin]; exact h3 i hin
        · have : i = n + 1 := by omega
          subst this
          rw [e]; exact .succ h hx
      · by_cases hjn : j ≤ n
        · rw [e' i (by omega), e' j hjn]; exact h4 i j hij hjn
        · have hj1 : j = n + 1 := by omega
          subst hj1
          rw [e]
          by_cases hin : i ≤ n
          · rw [e' i hin, show n + 1 - i = (n - i) + 1 by omega]
            have := h4 i n hin (Nat.le_refl n)
            rw [h2] at this
            exact .succ this hx
          · have : i = n + 1 := by omega
            subst this
            rw [e, Nat.sub_self]; exact .zero
/-- A walk that is longer than there are words goes in a circle. -/
theorem long_ever {w : Word} {ws : List Word} (hall : ∀ n x, ReachN nx w n x → x ∈ ws) {n : Nat} {x : Word} (h : ReachN nx w n x) (hn : ws.length ≤ n) : EverR nx w := by
  obtain ⟨l, h1, _, h3, h4⟩ := walk_list h
  have hnot : ¬ l.Nodup := by
    intro hd
    have := nodup_le' (m := ws) hd fun y hy => by
      obtain ⟨i, hi, rfl⟩ := List.getElem_of_mem hy
      have := h3 i (by omega)
      rw [el_eq l i hi] at this
      exact hall _ _ this
    omega
  unfold List.Nodup at hnot
  rw [List.pairwise_iff_getElem] at hnot
  have : ∃ i j, ∃ (hi : i < l.length) (hj : j < l.length), i < j ∧ l[i] = l[j] := by
    apply Classical.byContradiction
    intro hne
    apply hnot
    intro i j hi hj hij heq
    exact hne ⟨i, j, hi, hj, hij, heq⟩
  obtain ⟨i, j, hi, hj, hij, heq⟩ := this
  have hr := h3 i (by omega)
  have hc := h4 i j (by omega) (by omega)
  rw [el_eq l i hi] at hr hc
  rw [el_eq l j hj, ← heq] at hc
  exact ever_of_cycle hr (by omega) hc
/-- The greatest number of steps, or none if they go on for ever. -/
structure LongR (nx : Word → List Word) (w : Word) (n : Int) (ok : Bool) : Prop where
  fin : ok = true → (∃ m : Nat, n = (m : Int) ∧ ∃ x, ReachN nx w m x) ∧ ∀ (m : Nat) (x : Word), ReachN nx w m x → (m : Int) ≤ n
  ever : ok = false → n = 0 ∧ EverR nx w
theorem LongR.same {w : Word} {n m : Int} {a b : Bool} (h : LongR nx w n a) (k : LongR nx w m b) : n = m ∧ a = b := by
  cases a with
  | true =>
    obtain ⟨⟨x, hx, y, hy⟩, h2⟩ := h.fin rfl
    cases b with
    | true =>
      obtain ⟨⟨x', hx', y', hy'⟩, h2'⟩ := k.fin rfl
      have := h2 _ _ hy'
      have := h2' _ _ hy
      exact ⟨by omega, rfl⟩
    | false =>
      obtain ⟨_, h3⟩ := k.ever rfl
      obtain ⟨z, hz⟩ := h3 (x + 1)
      have := h2 _ _ hz
      omega
  | false =>
    obtain ⟨h0, h3⟩ := h.ever rfl
    cases b with
    | true =>
      obtain ⟨⟨x', hx', y', hy'⟩, h2'⟩ := k.fin rfl
      obtain ⟨z, hz⟩ := h3 (x' + 1)
      have := h2' _ _ hz
      omega
    | false => exact ⟨by rw [h0, (k.ever rfl).1], rfl⟩
theorem LongR.congr {nx' : Word → List Word} (he : ∀ v x, x ∈ nx v ↔ x ∈ nx' v) {w : Word} {n : Int} {a : Bool} (h : LongR nx w n a) : LongR nx' w n a := by
  refine ⟨fun ha => ?_, fun ha => ?_⟩
  · obtain ⟨⟨m, h1, x, h2⟩, h3⟩ := h.fin ha
    exact ⟨⟨m, h1, x, h2.congr he⟩, fun k y hy => h3 k y (hy.congr fun v x => (he v x).symm)⟩
  · obtain ⟨h1, h2⟩ := h.ever ha
    exact ⟨h1, fun n => by obtain ⟨x, hx⟩ := h2 n; exact ⟨x, hx.congr he⟩⟩
/-- What holds while edges are gone through. -/
structure RelOK (nx : Word → List Word) (ws : List Word) (o : List Int) (b : Int) : Prop where
  len : o.length = ws.length
  walk : ∀ i, i < ws.length → ∃ n : Nat, el o i = (n : Int) ∧ ∃ u ∈ ws, ReachN nx u n (el ws i)
  top : ∀ i, i < ws.length → el o i ≤ b
  best : b = 0 ∨ ∃ i, i < ws.length ∧ el o i = b
  pos : 0 ≤ b
/-- The edges of a graph of words. -/
structure EdgesOK (nx : Word → List Word) (ws : List Word) (es : List (Nat × Nat)) : Prop where
  lt : ∀ e ∈ es, e.1 < ws.length ∧ e.2 < ws.length ∧ el ws e.2 ∈ nx (el ws e.1)
  all : ∀ i, i < ws.length → ∀ x ∈ nx (el ws i), ∃ j, (i, j) ∈ es ∧ el ws j = x
theorem el_setG {α : Type} [Inhabited α] (o : List α) (i k : Nat) (v : α) (hi : i < o.length) : el (o.set i v) k = if i = k then v else el o k := by
  unfold el
  rw [List.getD_eq_getElem?_getD, List.getElem?_set]
  by_cases h : i = k
  · subst h; simp [hi]
  · simp [h]
/-- The words that are reached, and no others. -/
structure AllOK (nx : Word → List Word) (w : Word) (ws : List Word) : Prop where
  mem : w ∈ ws
  reach : ∀ x ∈ ws, ∃ n, ReachN nx w n x
  all : ∀ n x, ReachN nx w n x → x ∈ ws
end Go.Proofs.Ytkhddecnllcaiaa
end

section
/- Plain: words that are calm; that a calm word whose steps end has one end; what is reached, by numbers. -/
namespace Go.Proofs.Ytkhddecnllcaiaa
open Go.Abs Go

variable {nx : Word → List Word}
/-- Both reach a common word. -/
def JoinW (nx : Word → List Word) (u v : Word) : Prop := ∃ n m z, ReachN nx u n z ∧ ReachN nx v m z
def CalmR (nx : Word → List Word) (w : Word) : Prop := ∀ n u, ReachN nx w n u → ∀ x ∈ nx u, ∀ y ∈ nx u, JoinW nx x y
theorem end_exists {w : Word} {N : Int} (hN : ∀ (m : Nat) (x : Word), ReachN nx w m x → (m : Int) ≤ N) : ∀ (d : Nat) {k : Nat} {u : Word}, ReachN nx w k u → N < ((k + d : Nat) : Int) → ∃ j c, ReachN nx u j c ∧ nx c = []
  | 0, k, u, h, hd => by have := hN k u h; omega
  | d + 1, k, u, h, hd => by
    cases he : nx u with
    | nil => exact ⟨0, u, .zero, he⟩
    | cons x l =>
      have hx : x ∈ nx u := by rw [he]; simp
      obtain ⟨j, c, h1, h2⟩ := end_exists hN d (.succ h hx) (by omega)
      exact ⟨j + 1, c, ReachN.cons hx h1, h2⟩
theorem newman {w : Word} {N : Int} (hc : CalmR nx w) (hN : ∀ (m : Nat) (x : Word), ReachN nx w m x → (m : Int) ≤ N) : ∀ (d : Nat) {k : Nat} {u : Word}, ReachN nx w k u → N < ((k + d : Nat) : Int) →
    ∀ {i j : Nat} {a b : Word}, ReachN nx u i a → ReachN nx u j b → nx a = [] → nx b = [] → a = b
  | 0, k, u, h, hd, _, _, _, _, _, _, _, _ => by have := hN k u h; omega
  | d + 1, k, u, h, hd, i, j, a, b, ha, hb, ea, eb => by
    cases i with
    | zero =>
      cases ha
      cases j with
      | zero => cases hb; rfl
      | succ j =>
        obtain ⟨x, hx, _⟩ := hb.first
        rw [ea] at hx; cases hx
    | succ i =>
      obtain ⟨x, hx, ha'⟩ := ha.first
      cases j with
      | zero =>
        cases hb
        rw [eb] at hx; cases hx
      | succ j =>
        obtain ⟨y, hy, hb'⟩ := hb.first
        obtain ⟨n, m, z, hz1, hz2⟩ := hc k u h x hx y hy
        have hx' := ReachN.succ h hx
        have hy' := ReachN.succ h hy
        obtain ⟨e, c, hzc, ec⟩ := end_exists hN d (hx'.trans hz1) (by omega)
        have e1 := newman hc hN d hx' (by omega) ha' (hz1.trans hzc) ea ec
        have e2 := newman hc hN d hy' (by omega) hb' (hz2.trans hzc) eb ec
        rw [e1, e2]

/-! ### by numbers -/
inductive ReachI (rows : List (List Int)) (i : Nat) : Nat → Prop
  | zero : ReachI rows i i
  | succ {j k : Nat} (h : ReachI rows i j) (hj : j < rows.length) (hk : (k : Int) ∈ el rows j) : ReachI rows i k
open Classical in
noncomputable def cloB (rows : List (List Int)) (i : Nat) : List Bool := (List.range rows.length).map fun k => decide (ReachI rows i k)
def commonB (a b : List Bool) : Bool := (List.range a.length).any fun k => el a k && el b k
noncomputable def calmB (rows : List (List Int)) : Bool := rows.all fun all => (List.range all.length).all fun i => (List.range i).all fun k => commonB (cloB rows (el all i).toNat) (cloB rows (el all k).toNat)
theorem cloB_len (rows : List (List Int)) (i : Nat) : (cloB rows i).length = rows.length := by simp [cloB]
theorem cloB_el {rows : List (List Int)} {i k : Nat} (hk : k < rows.length) : el (cloB rows i) k = true ↔ ReachI rows i k := by
  have : el (List.range rows.length) k = k := by rw [el_eq _ _ (by simpa using hk)]; simp
  unfold cloB
  rw [el_mapG _ _ (by simpa using hk), this]
  exact @decide_eq_true_iff _ (Classical.propDecidable _)
theorem common_iff {rows : List (List Int)} {i j : Nat} : commonB (cloB rows i) (cloB rows j) = true ↔ ∃ z, z < rows.length ∧ ReachI rows i z ∧ ReachI rows j z := by
  unfold commonB
  rw [List.any_eq_true]
  constructor
  · rintro ⟨z, hz, h⟩
    rw [List.mem_range, cloB_len] at hz
    rw [Bool.and_eq_true, cloB_el hz, cloB_el hz] at h
    exact ⟨z, hz, h⟩
  · rintro ⟨z, hz, h⟩
    refine ⟨z, by rw [List.mem_range, cloB_len]; exact hz, ?_⟩
    rw [Bool.and_eq_true, cloB_el hz, cloB_el hz]
    exact h
/-- The rows say to which words steps lead. -/
structure RowsFor (nx : Word → List Word) (ws : List Word) (rows : List (List Int)) : Prop where
  len : rows.length = ws.length
  to : ∀ i, i < ws.length → ∀ q ∈ el rows i, ∃ j : Nat, q = (j : Int) ∧ j < ws.length ∧ el ws j ∈ nx (el ws i)
  all : ∀ i, i < ws.length → ∀ x ∈ nx (el ws i), ∃ j : Nat, j < ws.length ∧ el ws j = x ∧ (j : Int) ∈ el rows i
theorem reachI_word {ws : List Word} {rows : List (List Int)} (h : RowsFor nx ws rows) {i k : Nat} (hi : i < ws.length) (r : ReachI rows i k) : k < ws.length ∧ ∃ n, ReachN nx (el ws i) n (el ws k) := by
  induction r with
  | zero => exact ⟨hi, 0, .zero⟩
  | succ r hj hk ih =>
    obtain ⟨h1, n, h2⟩ := ih
    obtain ⟨j', e, hj', hm⟩ := h.to _ h1 _ hk
    have : j' = _ := (Int.ofNat.inj e).symm
    subst this
    exact ⟨hj', n + 1, .succ h2 hm⟩
theorem reachI_of {ws : List Word} {rows : List (List Int)} (h : RowsFor nx ws rows) {i : Nat} (hi : i < ws.length) {n : Nat} {x : Word} (r : ReachN nx (el ws i) n x) : ∃ k, k < ws.length ∧ el ws k = x ∧ ReachI rows i k := by
  induction r with
  | zero => exact ⟨i, hi, rfl, .zero⟩
  | succ r hx ih =>
    obtain ⟨k, hk, rfl, hr⟩ := ih
    obtain ⟨j, h1, h2, h3⟩ := h.all k hk _ hx
    exact ⟨j, h1, h2, .succ hr (by rw [h.len]; exact hk) h3⟩
theorem nodup_at' {l : List Word} (h : l.Nodup) {i j : Nat} (hi : i < l.length) (hj : j < l.length) (e : el l i = el l j) : i = j := by
  rw [el_eq _ _ hi, el_eq _ _ hj] at e
  have hn := List.pairwise_iff_getElem.1 h
  apply Classical.byContradiction
  intro hne
  rcases Nat.lt_or_gt_of_ne hne with hlt | hgt
  · exact hn i j hi hj hlt e
  · exact hn j i hj hi hgt e.symm
theorem common_join {ws : List Word} {rows : List (List Int)} (h : RowsFor nx ws rows) (hn : ws.Nodup) {i j : Nat} (hi : i < ws.length) (hj : j < ws.length) : commonB (cloB rows i) (cloB rows j) = true ↔ JoinW nx (el ws i) (el ws j) := by
  rw [common_iff]
  constructor
  · rintro ⟨z, _, h1, h2⟩
    obtain ⟨_, n, r1⟩ := reachI_word h hi h1
    obtain ⟨_, m, r2⟩ := reachI_word h hj h2
    exact ⟨n, m, _, r1, r2⟩
  · rintro ⟨n, m, z, r1, r2⟩
    obtain ⟨k, hk, e, h1⟩ := reachI_of h hi r1
    obtain ⟨k', hk', e', h2⟩ := reachI_of h hj r2
    have := nodup_at' hn hk hk' (e.trans e'.symm)
    subst this
    exact ⟨k, by rw [h.len]; exact hk, h1, h2⟩
theorem mem_el {α : Type} [Inhabited α] {l : List α} {x : α} (h : x ∈ l) : ∃ k, k < l.length ∧ el l k = x := by
  obtain ⟨k, hk, rfl⟩ := List.getElem_of_mem h
  exact ⟨k, hk, el_eq _ k hk⟩
theorem calm_iff {w : Word} {ws : List Word} {rows : List (List Int)} (ha : AllOK nx w ws) (hn : ws.Nodup) (h : RowsFor nx ws rows) : calmB rows = true ↔ CalmR nx w := by
  have key : calmB rows = true ↔ ∀ r, r < ws.length → ∀ i, i < (el rows r).length → ∀ k, k < i → commonB (cloB rows (el (el rows r) i).toNat) (cloB rows (el (el rows r) k).toNat) = true := by
    unfold calmB
    simp only [List.all_eq_true, List.mem_range]
    constructor
    · intro hc r hr i hi k hk
      have hr' : r < rows.length := by rw [h.len]; exact hr
      exact hc (el rows r) (by rw [el_eq _ _ hr']; exact List.getElem_mem _) i hi k hk
    · intro hc all hall i hi k hk
      obtain ⟨r, hr, rfl⟩ := mem_el hall
      exact hc r (by rw [← h.len]; exact hr) i hi k hk
  rw [key]
  have hmem : ∀ {l : List Int} {p : Nat}, p < l.length → el l p ∈ l := fun {l p} hp => by rw [el_eq _ _ hp]; exact List.getElem_mem _
  constructor
  · intro hc n u hu x hx y hy
    obtain ⟨r, hr, rfl⟩ := mem_el (ha.all n u hu)
    obtain ⟨a, ha1, rfl, ha3⟩ := h.all r hr x hx
    obtain ⟨b, hb1, rfl, hb3⟩ := h.all r hr y hy
    obtain ⟨p, hp, ep⟩ := mem_el ha3
    obtain ⟨q, hq, eq⟩ := mem_el hb3
    rcases Nat.lt_trichotomy p q with hlt | heq | hgt
    · have := hc r hr q hq p hlt
      rw [ep, eq, Int.toNat_natCast, Int.toNat_natCast, common_join h hn hb1 ha1] at this
      obtain ⟨n, m, z, h1, h2⟩ := this
      exact ⟨m, n, z, h2, h1⟩
    · subst heq
      rw [ep] at eq
      have : a = b := Int.ofNat.inj eq
      subst this
      exact ⟨0, 0, _, .zero, .zero⟩
    · have := hc r hr p hp q hgt
      rw [ep, eq, Int.toNat_natCast, Int.toNat_natCast, common_join h hn ha1 hb1] at this
      exact this
  · intro hc r hr i hi k hk
    obtain ⟨a, ea, ha1, ha2⟩ := h.to r hr _ (hmem hi)
    obtain ⟨b, eb, hb1, hb2⟩ := h.to r hr _ (hmem (show k < (el rows r).length by omega))
    rw [ea, eb, Int.toNat_natCast, Int.toNat_natCast, common_join h hn ha1 hb1]
    obtain ⟨n, hn'⟩ := ha.reach (el ws r) (by rw [el_eq _ _ hr]; exact List.getElem_mem _)
    exact hc n _ hn' _ ha2 _ hb2
/-- Where nothing goes on for ever a calm word has one end. -/
theorem calm_one {w : Word} {n : Int} (hc : CalmR nx w) (hl : LongR nx w n true) : ∃ e k, ReachN nx w k e ∧ nx e = [] ∧ ∀ j x, ReachN nx w j x → nx x = [] → x = e := by
  obtain ⟨⟨m, rfl, _⟩, hN⟩ := hl.fin rfl
  obtain ⟨j, c, h1, h2⟩ := end_exists hN (m + 1) .zero (by omega)
  exact ⟨c, j, h1, h2, fun i x hx ex => newman hc hN (m + 1) .zero (by omega) hx h1 ex h2⟩
/-- A search: what was seen, and what of it is still to be looked at. -/
structure Search (rows : List (List Int)) (i : Nat) (seen : List Bool) (todo : List Int) : Prop where
  len : seen.length = rows.length
  first : el seen i = true
  reach : ∀ k, k < rows.length → el seen k = true → ReachI rows i k
  pend : ∀ q ∈ todo, ∃ j : Nat, q = (j : Int) ∧ j < rows.length ∧ el seen j = true
  done : ∀ j, j < rows.length → el seen j = true → (j : Int) ∈ todo ∨ ∀ k : Nat, (k : Int) ∈ el rows j → el seen k = true
/-- Every number in the rows is one of a row. -/
def Rng (rows : List (List Int)) : Prop := ∀ j, j < rows.length → ∀ p, p < (el rows j).length → ∃ k : Nat, el (el rows j) p = (k : Int) ∧ k < rows.length
theorem Search.end {rows : List (List Int)} {i : Nat} {seen : List Bool} (h : Search rows i seen []) (hr : Rng rows) (hi : i < rows.length) : seen = cloB rows i := by
  have key : ∀ k, ReachI rows i k → k < rows.length ∧ el seen k = true := by
    intro k r
    induction r with
    | zero => exact ⟨hi, h.first⟩
    | succ r hj hk ih =>
      rcases h.done _ hj ih.2 with h1 | h1
      · cases h1
      · refine ⟨?_, h1 _ hk⟩
        obtain ⟨p, hp, e⟩ := mem_el hk
        obtain ⟨k', e', hk'⟩ := hr _ hj p hp
        rw [e] at e'
        have : _ = k' := Int.ofNat.inj e'
        omega
  apply List.ext_getElem (by rw [cloB_len, h.len])
  intro k h1 h2
  rw [← el_eq _ _ h1, ← el_eq _ _ h2]
  have hk : k < rows.length := by rw [← h.len]; exact h1
  rw [Bool.eq_iff_iff, cloB_el hk]
  exact ⟨h.reach k hk, fun r => (key k r).2⟩
def cntF (l : List Bool) : Nat := l.countP fun b => !b
theorem cntF_set : ∀ (l : List Bool) (k : Nat), k < l.length → el l k = false → cntF (l.set k true) + 1 = cntF l
  | b :: l, 0, _, h => by
    have : b = false := h
    subst this
    simp [cntF]
  | b :: l, k + 1, hk, h => by
    have h1 : el l k = false := by simpa [el] using h
    have := cntF_set l k (by simpa using hk) h1
    unfold cntF at this ⊢
    simp only [List.set_cons_succ, List.countP_cons]
    omega
theorem el_setB (o : List Bool) (i k : Nat) (v : Bool) (hi : i < o.length) : el (o.set i v) k = if i = k then v else el o k := el_setG o i k v hi
/-- One number more of a row that is looked at. -/
theorem Search.push {rows : List (List Int)} {i : Nat} {seen : List Bool} {todo : List Int} (h : Search rows i seen todo) {j k : Nat} (hj : (j : Int) ∈ todo) (hk : (k : Int) ∈ el rows j) (hkl : k < rows.length) :
    Search rows i (seen.set k true) (todo ++ [(k : Int)]) := by
  have hks : k < seen.length := by rw [h.len]; exact hkl
  have hmono : ∀ q, el seen q = true → el (seen.set k true) q = true := fun q hq => by rw [el_setB _ _ _ _ hks]; split <;> simp_all
  obtain ⟨j', e, hj1, hj2⟩ := h.pend _ hj
  have : j' = j := (Int.ofNat.inj e).symm
  subst this
  refine ⟨by simpa using h.len, hmono _ h.first, fun q hq hs => ?_, fun q hq => ?_, fun q hq hs => ?_⟩
  · rw [el_setB _ _ _ _ hks] at hs
    split at hs
    · rename_i e; subst e
      exact .succ (h.reach _ hj1 hj2) hj1 hk
    · exact h.reach q hq hs
  · rcases List.mem_append.1 hq with hq | hq
    · obtain ⟨a, ea, h1, h2⟩ := h.pend q hq
      exact ⟨a, ea, h1, hmono _ h2⟩
    · simp only [List.mem_singleton] at hq
      exact ⟨k, hq, hkl, by rw [el_setB _ _ _ _ hks]; simp⟩
  · rw [el_setB _ _ _ _ hks] at hs
    split at hs
    · rename_i e; subst e
      exact .inl (by simp)
    · rcases h.done q hq hs with h1 | h1
      · exact .inl (by simp [h1])
      · exact .inr fun z hz => hmono _ (h1 z hz)
/-- A row was looked at to its end. -/
theorem Search.pop {rows : List (List Int)} {i : Nat} {seen : List Bool} {todo todo' : List Int} {j : Nat} (h : Search rows i seen todo) (hm : ∀ q, q ∈ todo ↔ q = (j : Int) ∨ q ∈ todo') (hr : Rng rows) (hj : j < rows.length)
    (hall : ∀ p, p < (el rows j).length → el seen (el (el rows j) p).toNat = true) : Search rows i seen todo' := by
  refine ⟨h.len, h.first, h.reach, fun q hq => h.pend q ((hm q).2 (.inr hq)), fun q hq hs => ?_⟩
  have hrow : ∀ k : Nat, (k : Int) ∈ el rows j → el seen k = true := fun k hk => by
    obtain ⟨p, hp, e⟩ := mem_el hk
    have := hall p hp
    rwa [e, Int.toNat_natCast] at this
  by_cases hqj : q = j
  · subst hqj; exact .inr hrow
  · rcases h.done q hq hs with h1 | h1
    · rcases (hm _).1 h1 with h2 | h2
      · exact absurd (Int.ofNat.inj h2) hqj
      · exact .inl h2
    · exact .inr h1
theorem Search.same {rows : List (List Int)} {i : Nat} {seen : List Bool} {todo todo' : List Int} (h : Search rows i seen todo) (hm : ∀ q, q ∈ todo' ↔ q ∈ todo) : Search rows i seen todo' :=
  ⟨h.len, h.first, h.reach, fun q hq => h.pend q ((hm q).1 hq), fun q hq hs => (h.done q hq hs).imp_left (hm q).2⟩
theorem Search.start {rows : List (List Int)} {i : Nat} (hi : i < rows.length) : Search rows i ((List.replicate rows.length false).set i true) [(i : Int)] := by
  have hl : i < (List.replicate rows.length false).length := by simpa using hi
  have hel : ∀ k, el ((List.replicate rows.length false).set i true) k = true → k = i := by
    intro k hk
    rw [el_setB _ _ _ _ hl] at hk
    split at hk
    · rename_i e; exact e.symm
    · exfalso
      by_cases h2 : k < rows.length
      · rw [el_eq _ _ (by simpa using h2)] at hk; simp at hk
      · unfold el at hk
        rw [List.getD_eq_getElem?_getD, List.getElem?_eq_none (by simp; omega)] at hk
        cases hk
  have h0 : el ((List.replicate rows.length false).set i true) i = true := by rw [el_setB _ _ _ _ hl]; simp
  refine ⟨by simp, h0, fun k hk hs => ?_, fun q hq => ?_, fun j hj hs => ?_⟩
  · rw [hel k hs]; exact .zero
  · simp only [List.mem_singleton] at hq
    exact ⟨i, hq, hi, h0⟩
  · rw [hel j hs]; exact .inl (by simp)
theorem cntF_start {n i : Nat} (hi : i < n) : cntF ((List.replicate n false).set i true) + 1 = n := by
  rw [cntF_set _ _ (by simpa using hi) (by rw [el_eq _ _ (by simpa using hi)]; simp)]
  unfold cntF
  rw [List.countP_replicate]
  simp
end Go.Proofs.Ytkhddecnllcaiaa
end

section
/- Functions of the cut as the value layer reads them. (written by gen.py) -/
set_option maxRecDepth 20000
namespace Go.Proofs.Ytkhddecnllcaiaa
open Go.Abs Go

def A9 : ACode :=
  (.seq (.reg [] [⟨some 1, (.box 24 (.tmp 0)), 0, none⟩,
      ⟨some 2, (.assign (.const (.bool false))), 4, none⟩])
    (.seq (.reg [] [⟨some 3, (.fieldAddr 24 (.tmp 1) 1), 0, none⟩,
      ⟨some 4, (.load 22 (.tmp 3)), 22, none⟩,
      ⟨some 5, (.call ⟨(.value (.func 44)), #[(.tmp 4)], #[22]⟩), 4, none⟩,
      ⟨some 6, (.move (.tmp 5)), 4, none⟩,
      ⟨some 7, (.fieldAddr 24 (.tmp 1) 2), 0, some (6, false)⟩,
      ⟨some 8, (.load 22 (.tmp 7)), 22, some (6, false)⟩,
      ⟨some 9, (.call ⟨(.value (.func 44)), #[(.tmp 8)], #[22]⟩), 4, some (6, false)⟩,
      ⟨some 10, (.pick (.tmp 6) (.const (.bool true)) (.tmp 9)), 4, none⟩,
      ⟨some 11, (.move (.tmp 10)), 4, none⟩,
      ⟨some 12, (.fieldAddr 24 (.tmp 1) 3), 0, some (11, false)⟩,
      ⟨some 13, (.load 22 (.tmp 12)), 22, some (11, false)⟩,
      ⟨some 14, (.call ⟨(.value (.func 44)), #[(.tmp 13)], #[22]⟩), 4, some (11, false)⟩,
      ⟨some 15, (.pick (.tmp 11) (.const (.bool true)) (.tmp 14)), 4, none⟩,
      ⟨some 2, (.assign (.tmp 15)), 4, none⟩])
    .ret))
theorem C9 {args : List AV} {r : AV} (hn : args.length ≤ 16) (h : vc Try.prog T [] A9 (Fin T [(.tmp 2)] r) ⟨envOf 0 args, []⟩) : CallP Try.prog 9 args r :=
  callP_of tok mixed Try.func9 (by kernel_rfl) (by kernel_rfl) (by kernel_rfl : Try.f9.ntmps = 16) (by kernel_rfl : Try.f9.body.bind (strip 16 (fun _ => [])) = some A9) hn h
def A44 : ACode :=
  (.seq (.reg [] [⟨some 2, (.assign (.const (.bool false))), 4, none⟩])
    (.seq (.reg [] [⟨some 3, (.move (.tmp 0)), 22, none⟩,
      ⟨some 4, (.call ⟨(.builtin .len), #[(.tmp 3)], #[22]⟩), 3, none⟩,
      ⟨some 5, (.binOp .gtr 3 (.tmp 4) (.const (.int .i64 100)) 3), 4, none⟩,
      ⟨some 2, (.assign (.tmp 5)), 4, none⟩])
    .ret))
theorem C44 {args : List AV} {r : AV} (hn : args.length ≤ 6) (h : vc Try.prog T [] A44 (Fin T [(.tmp 2)] r) ⟨envOf 0 args, []⟩) : CallP Try.prog 44 args r :=
  callP_of tok mixed Try.func44 (by kernel_rfl) (by kernel_rfl) (by kernel_rfl : Try.f44.ntmps = 6) (by kernel_rfl : Try.f44.body.bind (strip 6 (fun _ => [])) = some A44) hn h
def A62 : ACode :=
  (.seq (.reg [] [⟨some 4, (.assign (.const (.slice none 0 0))), 99, none⟩])
    (.seq (.reg [] [⟨some 9, (.move (.tmp 0)), 45, none⟩,
      ⟨some 10, (.call ⟨(.builtin .len), #[(.tmp 9)], #[45]⟩), 3, none⟩,
      ⟨some 11, (.makeSlice 99 (.tmp 10) (.tmp 10)), 99, none⟩,
      ⟨some 5, (.assign (.tmp 11)), 99, none⟩])
    (.seq (.reg [] [⟨some 12, (.move (.tmp 5)), 99, none⟩,
      ⟨some 13, (.move (.tmp 1)), 3, none⟩,
      ⟨some 14, (.indexAddr 99 (.tmp 12) (.tmp 13)), 0, none⟩,
      ⟨none, (.store 4 (.tmp 14) (.const (.bool true))), 0, none⟩])
    (.seq (.seq (.reg [] [⟨some 15, (.move (.tmp 1)), 3, none⟩,
      ⟨some 16, (.buildSlice 22 1 #[(0, (.tmp 15))]), 22, none⟩,
      ⟨some 6, (.assign (.tmp 16)), 22, none⟩])
    (.block 0 (.loop (.seq (.seq (.reg [] [⟨some 17, (.move (.tmp 6)), 22, none⟩,
      ⟨some 18, (.call ⟨(.builtin .len), #[(.tmp 17)], #[22]⟩), 3, none⟩,
      ⟨some 19, (.binOp .gtr 3 (.tmp 18) (.const (.int .i64 0)) 3), 4, none⟩])
    (.cond (.tmp 19)
    .skip
    (.exit 0)))
    (.seq (.block 1 (.seq (.reg [] [⟨some 22, (.move (.tmp 0)), 45, none⟩,
      ⟨some 23, (.move (.tmp 6)), 22, none⟩,
      ⟨some 24, (.indexAddr 22 (.tmp 23) (.const (.int .i64 0))), 0, none⟩,
      ⟨some 25, (.load 3 (.tmp 24)), 3, none⟩,
      ⟨some 26, (.indexAddr 45 (.tmp 22) (.tmp 25)), 0, none⟩,
      ⟨some 27, (.load 22 (.tmp 26)), 22, none⟩,
      ⟨some 28, (.call ⟨(.builtin .len), #[(.tmp 27)], #[22]⟩), 3, none⟩,
      ⟨some 29, (.move (.const (.int .i64 0))), 3, none⟩])
    (.block 2 (.loop (.seq (.reg [] [⟨some 30, (.binOp .lss 3 (.tmp 29) (.tmp 28) 3), 0, none⟩])
    (.seq (.cond (.tmp 30)
    .skip
    (.exit 2))
    (.seq (.block 3 (.seq (.reg [] [⟨some 31, (.indexAddr 22 (.tmp 27) (.tmp 29)), 0, none⟩,
      ⟨some 32, (.load 3 (.tmp 31)), 3, none⟩,
      ⟨some 8, (.assign (.tmp 32)), 3, none⟩])
    (.seq (.reg [] [⟨some 33, (.move (.tmp 5)), 99, none⟩,
      ⟨some 34, (.move (.tmp 8)), 3, none⟩,
      ⟨some 35, (.indexAddr 99 (.tmp 33) (.tmp 34)), 0, none⟩,
      ⟨some 36, (.load 4 (.tmp 35)), 4, none⟩,
      ⟨some 37, (.unOp .not 4 (.tmp 36)), 4, none⟩])
    (.cond (.tmp 37)
    (.seq (.reg [] [⟨some 38, (.move (.tmp 5)), 99, none⟩,
      ⟨some 39, (.move (.tmp 8)), 3, none⟩,
      ⟨some 40, (.indexAddr 99 (.tmp 38) (.tmp 39)), 0, none⟩,
      ⟨none, (.store 4 (.tmp 40) (.const (.bool true))), 0, none⟩])
    (.reg [] [⟨some 41, (.move (.tmp 6)), 22, none⟩,
      ⟨some 42, (.move (.tmp 8)), 3, none⟩,
      ⟨some 43, (.buildSlice 22 1 #[(0, (.tmp 42))]), 22, none⟩,
      ⟨some 44, (.call ⟨(.builtin .append), #[(.tmp 41), (.tmp 43)], #[22, 22]⟩), 22, none⟩,
      ⟨some 6, (.assign (.tmp 44)), 22, none⟩]))
    .skip))))
    (.reg [] [⟨some 45, (.binOp .add 3 (.tmp 29) (.const (.int .i64 1)) 3), 3, none⟩,
      ⟨some 29, (.move (.tmp 45)), 3, none⟩]))))))))
    (.reg [] [⟨some 20, (.move (.tmp 6)), 22, none⟩,
      ⟨some 21, (.slice 22 (.tmp 20) (some (.const (.int .i64 1))) none none), 22, none⟩,
      ⟨some 6, (.assign (.tmp 21)), 22, none⟩]))))))
    (.seq (.reg [] [⟨some 46, (.move (.tmp 5)), 99, none⟩,
      ⟨some 4, (.assign (.tmp 46)), 99, none⟩])
    .ret)))))
def A63 : ACode :=
  (.seq (.reg [] [⟨some 4, (.assign (.const (.bool false))), 4, none⟩])
    (.seq (.seq (.reg [] [⟨some 6, (.move (.tmp 0)), 99, none⟩,
      ⟨some 7, (.call ⟨(.builtin .len), #[(.tmp 6)], #[99]⟩), 3, none⟩,
      ⟨some 8, (.move (.const (.int .i64 0))), 3, none⟩])
    (.block 0 (.loop (.seq (.reg [] [⟨some 9, (.binOp .lss 3 (.tmp 8) (.tmp 7) 3), 0, none⟩])
    (.seq (.cond (.tmp 9)
    .skip
    (.exit 0))
    (.seq (.block 1 (.seq (.reg [] [⟨some 10, (.move (.tmp 8)), 3, none⟩,
      ⟨some 5, (.assign (.tmp 10)), 3, none⟩])
    (.seq (.reg [] [⟨some 11, (.move (.tmp 0)), 99, none⟩,
      ⟨some 12, (.move (.tmp 5)), 3, none⟩,
      ⟨some 13, (.indexAddr 99 (.tmp 11) (.tmp 12)), 0, none⟩,
      ⟨some 14, (.load 4 (.tmp 13)), 4, none⟩,
      ⟨some 15, (.move (.tmp 14)), 4, none⟩,
      ⟨some 16, (.move (.tmp 1)), 99, some (15, true)⟩,
      ⟨some 17, (.move (.tmp 5)), 3, some (15, true)⟩,
      ⟨some 18, (.indexAddr 99 (.tmp 16) (.tmp 17)), 0, some (15, true)⟩,
      ⟨some 19, (.load 4 (.tmp 18)), 4, some (15, true)⟩,
      ⟨some 20, (.pick (.tmp 15) (.tmp 19) (.const (.bool false))), 4, none⟩])
    (.cond (.tmp 20)
    (.seq (.reg [] [⟨some 4, (.assign (.const (.bool true))), 4, none⟩])
    .ret)
    .skip))))
    (.reg [] [⟨some 21, (.binOp .add 3 (.tmp 8) (.const (.int .i64 1)) 3), 3, none⟩,
      ⟨some 8, (.move (.tmp 21)), 3, none⟩])))))))
    (.seq (.reg [] [⟨some 4, (.assign (.const (.bool false))), 4, none⟩])
    .ret)))
theorem C63 {args : List AV} {r : AV} (hn : args.length ≤ 22) (h : vc Try.prog T [] A63 (Fin T [(.tmp 4)] r) ⟨envOf 0 args, []⟩) : CallP Try.prog 63 args r :=
  callP_of tok mixed Try.func63 (by kernel_rfl) (by kernel_rfl) (by kernel_rfl : Try.f63.ntmps = 22) (by kernel_rfl : Try.f63.body.bind (strip 22 (fun _ => [])) = some A63) hn h
def A70 : ACode :=
  (.seq (.reg [] [⟨some 4, (.move (.tmp 0)), 55, none⟩,
      ⟨some 5, (.call ⟨(.builtin .len), #[(.tmp 4)], #[55]⟩), 3, none⟩,
      ⟨some 6, (.binOp .sub 3 (.tmp 5) (.const (.int .i64 1)) 3), 3, none⟩,
      ⟨some 2, (.assign (.const (.int .i64 0))), 3, none⟩,
      ⟨some 3, (.assign (.tmp 6)), 3, none⟩])
    (.block 0 (.loop (.seq (.seq (.reg [] [⟨some 7, (.move (.tmp 2)), 3, none⟩,
      ⟨some 8, (.move (.tmp 3)), 3, none⟩,
      ⟨some 9, (.binOp .lss 3 (.tmp 7) (.tmp 8) 3), 4, none⟩])
    (.cond (.tmp 9)
    .skip
    (.exit 0)))
    (.seq (.block 1 (.draw [] [⟨some 14, (.move (.tmp 0)), 55, none⟩,
      ⟨some 15, (.move (.tmp 2)), 3, none⟩,
      ⟨some 16, (.move (.tmp 0)), 55, none⟩,
      ⟨some 17, (.move (.tmp 3)), 3, none⟩,
      ⟨some 18, (.move (.tmp 0)), 55, none⟩,
      ⟨some 19, (.move (.tmp 3)), 3, none⟩,
      ⟨some 20, (.indexAddr 55 (.tmp 18) (.tmp 19)), 0, none⟩,
      ⟨some 21, (.load 108 (.tmp 20)), 108, none⟩,
      ⟨some 22, (.move (.tmp 0)), 55, none⟩,
      ⟨some 23, (.move (.tmp 2)), 3, none⟩,
      ⟨some 24, (.indexAddr 55 (.tmp 22) (.tmp 23)), 0, none⟩,
      ⟨some 25, (.load 108 (.tmp 24)), 108, none⟩,
      ⟨some 26, (.indexAddr 55 (.tmp 14) (.tmp 15)), 0, none⟩,
      ⟨none, (.store 108 (.tmp 26) (.tmp 21)), 0, none⟩,
      ⟨some 27, (.indexAddr 55 (.tmp 16) (.tmp 17)), 0, none⟩,
      ⟨none, (.store 108 (.tmp 27) (.tmp 25)), 0, none⟩] [(0, 1), (0, 2), (1, 2), (0, 3), (1, 3), (2, 3), (0, 4), (1, 4), (2, 4), (3, 4), (0, 5), (1, 5), (2, 5), (3, 5), (4, 5), (0, 6), (1, 6), (2, 6), (3, 6), (0, 7), (1, 7), (2, 7), (3, 7), (0, 8), (1, 8), (2, 8), (3, 8), (4, 8), (5, 8), (6, 8), (7, 8), (0, 9), (1, 9), (2, 9), (3, 9), (4, 9), (5, 9), (6, 9), (7, 9), (8, 9), (0, 10), (1, 10), (2, 10), (3, 10), (4, 10), (5, 10), (6, 10), (7, 10), (0, 11), (1, 11), (2, 11), (3, 11), (4, 11), (5, 11), (6, 11), (7, 11), (2, 12), (3, 12), (2, 13), (3, 13)]))
    (.reg [] [⟨some 10, (.move (.tmp 2)), 3, none⟩,
      ⟨some 11, (.binOp .add 3 (.tmp 10) (.const (.int .i64 1)) 3), 3, none⟩,
      ⟨some 12, (.move (.tmp 3)), 3, none⟩,
      ⟨some 13, (.binOp .sub 3 (.tmp 12) (.const (.int .i64 1)) 3), 3, none⟩,
      ⟨some 2, (.assign (.tmp 11)), 3, none⟩,
      ⟨some 3, (.assign (.tmp 13)), 3, none⟩]))))))
theorem CL70 {pre suf : List AV} {sz : Nat} {els els' : List AV} {r : LRet} (hn : (pre ++ .sl lid 0 0 els.length :: suf).length ≤ 28) (h : vc Try.prog T [] A70 (FinL T [] sz r els') ⟨envOf 0 (pre ++ .sl lid 0 0 els.length :: suf), [(lid, some ⟨sz, els, 0, false⟩)]⟩) : CallL Try.prog 70 pre sz els suf r els' :=
  callL_of tok mixed Try.func70 (by kernel_rfl) (by kernel_rfl) (by kernel_rfl : Try.f70.ntmps = 28) (by kernel_rfl : Try.f70.body.bind (strip 28 (fun _ => [])) = some A70) hn h
def A94 : ACode :=
  (.seq (.reg [] [⟨some 4, (.assign (.const (.slice none 0 0))), 22, none⟩])
    (.seq (.seq (.reg [] [⟨some 9, (.move (.tmp 1)), 3, none⟩,
      ⟨some 10, (.binOp .lss 3 (.tmp 9) (.const (.int .i64 0)) 3), 4, none⟩])
    (.cond (.tmp 10)
    (.reg [] [⟨some 11, (.makeInterface 9 (.const (.string ⟨#[99, 97, 110, 110, 111, 116, 32, 98, 101, 32, 110, 101, 103, 97, 116, 105, 118, 101]⟩))), 20, none⟩,
      ⟨none, (.panic (.tmp 11)), 0, none⟩])
    .skip))
    (.seq (.reg [] [⟨some 13, (.move (.tmp 0)), 22, none⟩,
      ⟨some 14, (.call ⟨(.builtin .len), #[(.tmp 13)], #[22]⟩), 3, none⟩,
      ⟨some 15, (.convert 3 54 (.tmp 14)), 54, none⟩,
      ⟨some 16, (.move (.tmp 1)), 3, none⟩,
      ⟨some 17, (.convert 3 54 (.tmp 16)), 54, none⟩,
      ⟨some 18, (.call ⟨(.value (.func 111)), #[(.tmp 15), (.tmp 17)], #[54, 54]⟩), 142, none⟩,
      ⟨some 12, (.move (.tmp 18)), 142, none⟩,
      ⟨some 19, (.extract (.tmp 12) 0), 54, none⟩,
      ⟨some 20, (.extract (.tmp 12) 1), 54, none⟩,
      ⟨some 5, (.assign (.tmp 19)), 54, none⟩,
      ⟨some 6, (.assign (.tmp 20)), 54, none⟩])
    (.seq (.seq (.reg [] [⟨some 21, (.move (.tmp 5)), 54, none⟩,
      ⟨some 22, (.binOp .gtr 54 (.tmp 21) (.const (.int .u64 0)) 54), 4, none⟩,
      ⟨some 23, (.move (.tmp 22)), 4, none⟩,
      ⟨some 24, (.move (.tmp 6)), 54, some (23, false)⟩,
      ⟨some 25, (.binOp .gtr 54 (.tmp 24) (.const (.int .u64 9223372036854775807)) 54), 4, some (23, false)⟩,
      ⟨some 26, (.pick (.tmp 23) (.const (.bool true)) (.tmp 25)), 4, none⟩])
    (.cond (.tmp 26)
    (.reg [] [⟨some 27, (.makeInterface 9 (.const (.string ⟨#[116, 104, 101, 32, 114, 101, 115, 117, 108, 116, 32, 111, 102, 32, 40, 108, 101, 110, 40, 120, 41, 32, 42, 32, 99, 111, 117, 110, 116, 41, 32, 111, 118, 101, 114, 102, 108, 111, 119, 115]⟩))), 20, none⟩,
      ⟨none, (.panic (.tmp 27)), 0, none⟩])
    .skip))
    (.seq (.reg [] [⟨some 28, (.move (.tmp 6)), 54, none⟩,
      ⟨some 29, (.convert 54 3 (.tmp 28)), 3, none⟩,
      ⟨some 30, (.makeSlice 22 (.tmp 29) (.tmp 29)), 22, none⟩,
      ⟨some 7, (.assign (.tmp 30)), 22, none⟩])
    (.seq (.reg [] [⟨some 31, (.move (.tmp 7)), 22, none⟩,
      ⟨some 32, (.move (.tmp 0)), 22, none⟩,
      ⟨some 33, (.call ⟨(.builtin .copy), #[(.tmp 31), (.tmp 32)], #[22, 22]⟩), 3, none⟩,
      ⟨some 8, (.assign (.tmp 33)), 3, none⟩])
    (.seq (.block 0 (.loop (.seq (.seq (.reg [] [⟨some 34, (.move (.tmp 8)), 3, none⟩,
      ⟨some 35, (.move (.tmp 7)), 22, none⟩,
      ⟨some 36, (.call ⟨(.builtin .len), #[(.tmp 35)], #[22]⟩), 3, none⟩,
      ⟨some 37, (.binOp .lss 3 (.tmp 34) (.tmp 36) 3), 4, none⟩])
    (.cond (.tmp 37)
    .skip
    (.exit 0)))
    (.block 1 (.draw [] [⟨some 38, (.move (.tmp 8)), 3, none⟩,
      ⟨some 39, (.move (.tmp 7)), 22, none⟩,
      ⟨some 40, (.move (.tmp 8)), 3, none⟩,
      ⟨some 41, (.slice 22 (.tmp 39) (some (.tmp 40)) none none), 22, none⟩,
      ⟨some 42, (.move (.tmp 7)), 22, none⟩,
      ⟨some 43, (.move (.tmp 8)), 3, none⟩,
      ⟨some 44, (.slice 22 (.tmp 42) none (some (.tmp 43)) none), 22, none⟩,
      ⟨some 45, (.call ⟨(.builtin .copy), #[(.tmp 41), (.tmp 44)], #[22, 22]⟩), 3, none⟩,
      ⟨some 46, (.binOp .add 3 (.tmp 38) (.tmp 45) 3), 3, none⟩,
      ⟨some 8, (.assign (.tmp 46)), 3, none⟩] [(0, 1), (0, 2), (1, 2), (0, 3), (0, 4), (1, 4), (2, 4), (3, 4), (0, 5), (1, 5), (2, 5), (3, 5), (4, 5), (0, 6), (1, 6), (2, 6), (3, 6), (0, 7)])))))
    (.seq (.reg [] [⟨some 47, (.move (.tmp 7)), 22, none⟩,
      ⟨some 4, (.assign (.tmp 47)), 22, none⟩])
    .ret))))))))
theorem CO94 {args : List AV} {sz : Nat} {els : List AV} (hn : args.length ≤ 48) (h : vc Try.prog T [] A94 (FinO [(.tmp 4)] sz els) ⟨envOf 0 args, []⟩) : CallO Try.prog 94 args sz els :=
  callO_of tok mixed Try.func94 (by kernel_rfl) (by kernel_rfl) (by kernel_rfl : Try.f94.ntmps = 48) (by kernel_rfl : Try.f94.body.bind (strip 48 (fun _ => [])) = some A94) hn h
def A95 : ACode :=
  (.seq (.reg [] [⟨some 6, (.assign (.const (.int .i64 0))), 3, none⟩])
    (.seq (.seq (.reg [] [⟨some 10, (.load 22 (.tmp 1)), 22, none⟩,
      ⟨some 11, (.move (.tmp 0)), 3, none⟩,
      ⟨some 12, (.indexAddr 22 (.tmp 10) (.tmp 11)), 0, none⟩,
      ⟨some 13, (.load 3 (.tmp 12)), 3, none⟩,
      ⟨some 14, (.binOp .eql 3 (.tmp 13) (.const (.int .i64 (-1))) 3), 4, none⟩])
    (.cond (.tmp 14)
    (.seq (.reg [] [⟨none, (.store 4 (.tmp 2) (.const (.bool true))), 0, none⟩])
    (.seq (.reg [] [⟨some 6, (.assign (.const (.int .i64 0))), 3, none⟩])
    .ret))
    .skip))
    (.seq (.seq (.reg [] [⟨some 15, (.load 22 (.tmp 1)), 22, none⟩,
      ⟨some 16, (.move (.tmp 0)), 3, none⟩,
      ⟨some 17, (.indexAddr 22 (.tmp 15) (.tmp 16)), 0, none⟩,
      ⟨some 18, (.load 3 (.tmp 17)), 3, none⟩,
      ⟨some 19, (.binOp .neq 3 (.tmp 18) (.const (.int .i64 (-2))) 3), 4, none⟩])
    (.cond (.tmp 19)
    (.seq (.reg [] [⟨some 20, (.load 22 (.tmp 1)), 22, none⟩,
      ⟨some 21, (.move (.tmp 0)), 3, none⟩,
      ⟨some 22, (.indexAddr 22 (.tmp 20) (.tmp 21)), 0, none⟩,
      ⟨some 23, (.load 3 (.tmp 22)), 3, none⟩,
      ⟨some 6, (.assign (.tmp 23)), 3, none⟩])
    .ret)
    .skip))
    (.seq (.reg [] [⟨some 24, (.load 22 (.tmp 1)), 22, none⟩,
      ⟨some 25, (.move (.tmp 0)), 3, none⟩,
      ⟨some 26, (.indexAddr 22 (.tmp 24) (.tmp 25)), 0, none⟩,
      ⟨none, (.store 3 (.tmp 26) (.const (.int .i64 (-1)))), 0, none⟩])
    (.seq (.reg [] [⟨some 7, (.assign (.const (.int .i64 0))), 3, none⟩])
    (.seq (.seq (.draw [] [⟨some 27, (.load 86 (.tmp 3)), 86, none⟩,
      ⟨some 28, (.nilCheck (.tmp 27)), 0, none⟩,
      ⟨some 29, (.fieldAddr 93 (.tmp 28) 0), 0, none⟩,
      ⟨some 30, (.load 41 (.tmp 29)), 41, none⟩,
      ⟨some 31, (.load 86 (.tmp 3)), 86, none⟩,
      ⟨some 32, (.nilCheck (.tmp 31)), 0, none⟩,
      ⟨some 33, (.fieldAddr 93 (.tmp 32) 1), 0, none⟩,
      ⟨some 34, (.load 45 (.tmp 33)), 45, none⟩,
      ⟨some 35, (.move (.tmp 0)), 3, none⟩,
      ⟨some 36, (.indexAddr 45 (.tmp 34) (.tmp 35)), 0, none⟩,
      ⟨some 37, (.load 22 (.tmp 36)), 22, none⟩,
      ⟨some 38, (.call ⟨(.value (.func 68)), #[(.tmp 30), (.tmp 37)], #[41, 22]⟩), 105, none⟩,
      ⟨some 39, (.call ⟨(.builtin .len), #[(.tmp 38)], #[105]⟩), 3, none⟩,
      ⟨some 40, (.move (.const (.int .i64 0))), 3, none⟩] [(0, 4), (1, 4), (2, 4), (3, 4), (0, 5), (1, 5), (2, 5), (3, 5), (0, 6), (1, 6), (2, 6), (3, 6), (0, 7), (1, 7), (2, 7), (3, 7), (0, 8), (1, 8), (2, 8), (3, 8), (4, 8), (5, 8), (6, 8), (7, 8), (0, 9), (1, 9), (2, 9), (3, 9), (0, 10), (1, 10), (2, 10), (3, 10), (0, 13), (1, 13), (2, 13), (3, 13), (4, 13), (5, 13), (6, 13), (7, 13), (8, 13), (9, 13), (10, 13), (11, 13), (12, 13)])
    (.block 0 (.loop (.seq (.reg [] [⟨some 41, (.binOp .lss 3 (.tmp 40) (.tmp 39) 3), 0, none⟩])
    (.seq (.cond (.tmp 41)
    .skip
    (.exit 0))
    (.seq (.block 1 (.seq (.reg [] [⟨some 42, (.indexAddr 105 (.tmp 38) (.tmp 40)), 0, none⟩,
      ⟨some 43, (.load 114 (.tmp 42)), 114, none⟩,
      ⟨some 9, (.alloc 114), 0, none⟩,
      ⟨none, (.store 114 (.tmp 9) (.tmp 43)), 0, none⟩])
    (.draw [] [⟨some 44, (.move (.tmp 7)), 3, none⟩,
      ⟨some 45, (.load 133 (.tmp 4)), 133, none⟩,
      ⟨some 46, (.load 86 (.tmp 3)), 86, none⟩,
      ⟨some 47, (.nilCheck (.tmp 46)), 0, none⟩,
      ⟨some 48, (.fieldAddr 93 (.tmp 47) 2), 0, none⟩,
      ⟨some 49, (.load 91 (.tmp 48)), 91, none⟩,
      ⟨some 50, (.fieldAddr 114 (.tmp 9) 1), 0, none⟩,
      ⟨some 51, (.load 22 (.tmp 50)), 22, none⟩,
      ⟨some 52, (.call ⟨(.value (.func 61)), #[(.tmp 51)], #[22]⟩), 9, none⟩,
      ⟨some 53, (.lookup 91 (.tmp 49) (.tmp 52) false), 3, none⟩,
      ⟨some 54, (.call ⟨(.value (.tmp 45)), #[(.tmp 53)], #[3]⟩), 3, none⟩,
      ⟨some 55, (.binOp .add 3 (.tmp 54) (.const (.int .i64 1)) 3), 3, none⟩,
      ⟨some 56, (.call ⟨(.builtin .max), #[(.tmp 44), (.tmp 55)], #[3, 3]⟩), 3, none⟩,
      ⟨some 7, (.assign (.tmp 56)), 3, none⟩] [(0, 1), (0, 2), (1, 2), (0, 3), (1, 3), (0, 4), (1, 4), (0, 5), (1, 5), (0, 6), (1, 6), (2, 6), (3, 6), (4, 6), (5, 6), (0, 7), (1, 7), (2, 7), (3, 7), (4, 7), (5, 7), (0, 8), (1, 8), (2, 8), (3, 8), (4, 8), (5, 8), (0, 9), (1, 9), (0, 10), (0, 11)])))
    (.reg [] [⟨some 57, (.binOp .add 3 (.tmp 40) (.const (.int .i64 1)) 3), 3, none⟩,
      ⟨some 40, (.move (.tmp 57)), 3, none⟩])))))))
    (.seq (.reg [] [⟨some 58, (.load 22 (.tmp 1)), 22, none⟩,
      ⟨some 59, (.move (.tmp 0)), 3, none⟩,
      ⟨some 60, (.move (.tmp 7)), 3, none⟩,
      ⟨some 61, (.indexAddr 22 (.tmp 58) (.tmp 59)), 0, none⟩,
      ⟨none, (.store 3 (.tmp 61) (.tmp 60)), 0, none⟩])
    (.seq (.reg [] [⟨some 62, (.move (.tmp 7)), 3, none⟩,
      ⟨some 6, (.assign (.tmp 62)), 3, none⟩])
    .ret))))))))
theorem CB95 {xs : List AV} {m m' : List (Nat × Option Box)} {r : AV} (hn : xs.length ≤ 63) (hm : (m.all fun p => p.2.isSome) = true) (h : vc Try.prog T [] A95 (FinB T [(.tmp 6)] m r m') ⟨envOf 0 xs, m⟩) : CallB Try.prog 95 xs m r m' :=
  callB_of tok mixed Try.func95 (by kernel_rfl) (by kernel_rfl) (by kernel_rfl : Try.f95.ntmps = 63) (by kernel_rfl : Try.f95.body.bind (strip 63 (fun _ => [])) = some A95) hn hm h

end Go.Proofs.Ytkhddecnllcaiaa
end

section
/- PURSE -/
/- Contracts: which words a word reaches, by their numbers. -/
namespace Go.Proofs.Ytkhddecnllcaiaa
open Go.Abs Go
set_option maxRecDepth 20000
set_option maxHeartbeats 8000000
attribute [local irreducible] PreK CondK CallK CallG CallX LoopK
attribute [local simp] avsEq avEq akind teq vkind vEq

@[simp] def bools (l : List Bool) : AV := .seq 1 (l.map bv) false
theorem CX62 {args : List AV} {r : AV} (hn : args.length ≤ 47) (h : vc Try.prog T [16] A62 (Fin T [.tmp 4] r) ⟨envOf 0 args, []⟩) : CallP Try.prog 62 args r :=
  callP_of tok mixed Try.func62 (by kernel_rfl) (by kernel_rfl) (by kernel_rfl : Try.f62.ntmps = 47) (by kernel_rfl : Try.f62.body.bind (strip 47 (fun _ => [])) = some A62) hn h
theorem el_app_right {α : Type} [Inhabited α] (a b : List α) (k : Nat) : el (a ++ b) (a.length + k) = el b k := by
  unfold el
  rw [List.getD_eq_getElem?_getD, List.getD_eq_getElem?_getD, List.getElem?_append_right (by omega)]
  rw [Nat.add_sub_cancel_left]
theorem nth_bv (l : List Bool) (k : Nat) (h : k < l.length) : nth (l.map bv) k = bv (el l k) := nth_map bv l k h
attribute [local simp] nth_bv
theorem nth_rep (n k : Nat) (a : AV) (h : k < n) : nth (List.replicate n a) k = a := by simp [nth, List.getD_eq_getElem?_getD, h]
/-- The program's search: the row of the first number is looked at, then it is left out. -/
theorem closure_c (rows : List (List Int)) (i : Nat) (hn : rows.length ≤ 300) (hi : i < rows.length) (hr : Rng rows) (hrow : ∀ j, j < rows.length → (el rows j).length ≤ 100) : CallP Try.prog 62 [wordsV rows, iv i] (bools (cloB rows i)) := by
  refine CX62 (by simp) ?_
  have hs0 := Search.start hi
  have hc0 := cntF_start hi
  generalize hS0 : (List.replicate rows.length false).set i true = S0 at hs0 hc0
  have hS1 : (List.replicate rows.length (bv false)).set i (bv true) = S0.map bv := by rw [← hS0, List.map_set]; simp
  simp only [bv] at hS1
  have hn0 := nth_rep rows.length i (bv false) hi
  simp only [bv] at hn0
  simp [A62]
  repeat (refine PreK.intro (by first | omega | (intros; first | omega | (refine ⟨by omega, ?_⟩; simp_all; done) | (simp_all; done) | (simp_all; omega))) fun _ => ?_; (try simp [hi, hn0]))
  refine LoopK.by (ι := Nat × List Int × List Bool × List Int) (fun x => ⟨[(6, .sl 16 x.1 x.2.1.length x.2.2.2.length), (5, .sl 11 1 0 rows.length), (0, wordsV rows)], [(11, some ⟨1, x.2.2.1.map bv, 1, false⟩), (16, some ⟨1, (x.2.1 ++ x.2.2.2).map iv, x.1, false⟩)]⟩)
    (fun x => cntF x.2.2.1 + x.2.2.2.length) (fun x => Search rows i x.2.2.1 x.2.2.2 ∧ x.2.1.length + cntF x.2.2.1 + x.2.2.2.length ≤ rows.length) (1, [], S0, [(i : Int)]) ⟨hs0, by simp; omega⟩ (by simp [hS1]) ?_
  intro ⟨v, pre, seen, todo⟩ Q' ⟨hs, hc⟩ hq he hret
  dsimp only at hs hc
  have hsl := hs.len
  cases todo with
  | nil =>
    try simp 
    refine CondK.intro (fun h1 => ?_) (fun h1 => ?_)
    · simp at h1
    · apply he
      rw [← hs.end hr hi]
      try simp 
      repeat' (first
        | ((with_reducible refine PreK.intro ?_ ?_); (next => (first | omega | (intros; first | omega | (refine ⟨by omega, ?_⟩; repeat (first | assumption | constructor)) | assumption))); intro _; try simp )
        | fail)
      exact List.take_of_length_le (by simp [hsl])
  | cons q rest =>
    obtain ⟨j, rfl, hj, hjs⟩ := hs.pend q (by simp)
    have hrj := hr j hj
    have hlj := hrow j hj
    have e0 : el (pre ++ (j : Int) :: rest) pre.length = (j : Int) := by
      exact el_app_right pre ((j : Int) :: rest) 0
    have e1 : pre.length < (pre ++ (j : Int) :: rest).length := by simp
    have n0 : nth ((pre ++ (j : Int) :: rest).map iv) pre.length = iv (j : Int) := by rw [nth_map _ _ _ e1, e0]
    simp only [iv, List.map_append, List.map_cons] at n0
    generalize hrw : el rows j = row at hrj hlj
    try simp 
    refine CondK.intro (fun h1 => ?_) (fun h1 => ?_)
    · repeat (refine PreK.intro (by first | omega | (intros; first | omega | (refine ⟨by omega, ?_⟩; simp_all; done) | (simp_all; done) | (simp_all; omega))) fun _ => ?_; (try simp [n0, hj, hrw]))
      refine LoopK.by (ι := Nat × Nat × List Int × List Bool × List Int) (fun x => ⟨[(29, iv x.1), (28, iv row.length), (27, ints row), (6, .sl 16 x.2.1 x.2.2.1.length (x.2.2.2.2.length + 1)), (5, .sl 11 1 0 rows.length), (0, wordsV rows)],
          [(11, some ⟨1, x.2.2.2.1.map bv, 1, false⟩), (16, some ⟨1, (x.2.2.1 ++ (j : Int) :: x.2.2.2.2).map iv, x.2.1, false⟩)]⟩)
        (fun x => row.length - x.1) (fun x => x.1 ≤ row.length ∧ x.2.2.1.length + cntF x.2.2.2.1 + (x.2.2.2.2.length + 1) ≤ rows.length ∧ Search rows i x.2.2.2.1 ((j : Int) :: x.2.2.2.2) ∧ cntF x.2.2.2.1 + x.2.2.2.2.length = cntF seen + rest.length ∧ ∀ p, p < x.1 → el x.2.2.2.1 (el row p).toNat = true)
        (0, v, pre, seen, rest) ⟨Nat.zero_le _, by simp at hc ⊢; omega, hs, rfl, fun p hp => absurd hp (Nat.not_lt_zero p)⟩ (by simp) ?_
      intro ⟨p, v', pre', seen', rest'⟩ Q2 ⟨hp', hpl, hs', hc', hall⟩ hq2 he2 hr2
      dsimp only at hp' hpl hs' hc' hall
      have hsl' := hs'.len
      try simp 
      refine CondK.intro (fun h2 => ?_) (fun h2 => ?_)
      · simp at h2
        obtain ⟨k, ek, hk⟩ := hrj p h2
        have hks : k < seen'.length := by omega
        have ek0 : (0 : Int) ≤ el row p := by omega
        have ekt : (el row p).toNat = k := by omega
        have ekn : el row p < (rows.length : Int) := by omega
        have hmem : (k : Int) ∈ el rows j := by
          rw [hrw, ← ek, el_eq _ _ h2]
          exact List.getElem_mem _
        repeat (refine PreK.intro (by first | omega | (intros; first | omega | (refine ⟨by omega, ?_⟩; simp_all; done) | (simp_all; done) | (simp_all; omega))) fun _ => ?_; (try simp [h2, hks, ek0, ekt, ekn, hsl', hk]))
        refine CondK.intro (fun h3 => ?_) (fun h3 => ?_)
        · have hf : el seen' k = false := by (try simp at h3); simpa using h3
          have hcs := cntF_set seen' k hks hf
          have hps := hs'.push (j := j) (by simp) hmem hk
          have hpush : ((pre' ++ (j : Int) :: rest').map iv).drop pre'.length = ((j : Int) :: rest').map iv := by simp
          repeat (refine PreK.intro (by first | omega | (intros; first | omega | (refine ⟨by omega, ?_⟩; simp_all; done) | (simp_all; done) | (simp_all; omega))) fun _ => ?_; (try simp [h2, hks, ek0, ekt, ekn, hsl', hk, hpush]))
          refine hq2 (p + 1, v' + 1, [], seen'.set k true, rest' ++ [(k : Int)]) _ ⟨by dsimp only; omega, by simp; omega, by simpa using hps, by simp; omega, fun q hq => ?_⟩ (by dsimp only; omega) ?_
          · dsimp only
            rw [el_setB _ _ _ _ hks]
            by_cases hqp : q = p
            · subst hqp; rw [ekt]; simp
            · split
              · rfl
              · exact hall q (by dsimp only at hq; omega)
          · simp [ek]
        · have hf : el seen' k = true := by (try simp at h3); simpa using h3
          repeat (refine PreK.intro (by first | omega | (intros; first | omega | (refine ⟨by omega, ?_⟩; simp_all; done) | (simp_all; done) | (simp_all; omega))) fun _ => ?_; (try simp ))
          refine hq2 (p + 1, v', pre', seen', rest') _ ⟨by dsimp only; omega, hpl, hs', hc', fun q hq => ?_⟩ (by dsimp only; omega) (by simp)
          dsimp only
          by_cases hqp : q = p
          · subst hqp; rw [ekt]; exact hf
          · exact hall q (by dsimp only at hq; omega)
      · simp at h2
        have hpe : p = row.length := by omega
        subst hpe
        try simp 
        apply he2
        try simp 
        have hpop := hs'.pop (todo' := rest') (j := j) (fun q => by simp) hr hj (by rw [hrw]; exact hall)
        repeat (refine PreK.intro (by first | omega | (intros; first | omega | (refine ⟨by omega, ?_⟩; simp_all; done) | (simp_all; done) | (simp_all; omega))) fun _ => ?_; (try simp ))
        refine hq (v', pre' ++ [(j : Int)], seen', rest') _ ⟨hpop, by simp; omega⟩ (by simp; omega) (by simp)
    · simp at h1
theorem common_c (a b : List Bool) (ha : a.length ≤ 1000) (hab : b.length = a.length) : CallP Try.prog 63 [bools a, bools b] (bv (commonB a b)) := by
  refine C63 (by simp) ?_
  have hany : ∀ n, n ≤ a.length → ((List.range a.length).drop n).any (fun k => el a k && el b k) = if n < a.length then (el a n && el b n) || ((List.range a.length).drop (n + 1)).any (fun k => el a k && el b k) else false := by
    intro n hn
    split
    · rename_i h
      rw [drop_cons (List.range a.length) n (by simpa using h), List.any_cons]
      have : el (List.range a.length) n = n := by rw [el_eq _ _ (by simpa using h)]; simp
      rw [this]
    · rename_i h
      rw [List.drop_eq_nil_of_le (by simp; omega)]
      rfl
  unfold commonB
  generalize hR : (List.range a.length).any (fun k => el a k && el b k) = R
  simp [A63]
  refine LoopK.by (ι := Nat) (fun i => ⟨[(8, iv i), (7, iv a.length), (0, bools a), (1, bools b)], []⟩) (fun i => a.length - i) (fun i => i ≤ a.length ∧ ((List.range a.length).drop i).any (fun k => el a k && el b k) = R) 0 ⟨Nat.zero_le _, by simpa using hR⟩ (by simp) ?_
  intro i Q' ⟨hi, hc⟩ hq he hr
  rw [hany i hi] at hc
  try simp 
  refine CondK.intro (fun h1 => ?_) (fun h1 => ?_)
  · simp at h1
    have h1b : i < b.length := by omega
    rw [if_pos h1] at hc
    cases hA : el a i
    · rw [hA] at hc
      repeat (refine PreK.intro (by first | omega | (intros; first | omega | (refine ⟨by omega, ?_⟩; simp_all; done) | (simp_all; done) | (simp_all; omega))) fun _ => ?_; (try simp [h1, h1b, hA]))
      refine CondK.intro (fun h2 => ?_) (fun h2 => ?_)
      · simp at h2
      · repeat (refine PreK.intro (by first | omega | (intros; first | omega | (refine ⟨by omega, ?_⟩; simp_all; done) | (simp_all; done) | (simp_all; omega))) fun _ => ?_; (try simp ))
        exact hq (i + 1) _ ⟨by omega, by simpa using hc⟩ (by omega) (by simp)
    · rw [hA] at hc
      cases hB : el b i
      · rw [hB] at hc
        repeat (refine PreK.intro (by first | omega | (intros; first | omega | (refine ⟨by omega, ?_⟩; simp_all; done) | (simp_all; done) | (simp_all; omega))) fun _ => ?_; (try simp [h1, h1b, hA, hB]))
        refine CondK.intro (fun h2 => ?_) (fun h2 => ?_)
        · simp at h2
        · repeat (refine PreK.intro (by first | omega | (intros; first | omega | (refine ⟨by omega, ?_⟩; simp_all; done) | (simp_all; done) | (simp_all; omega))) fun _ => ?_; (try simp ))
          exact hq (i + 1) _ ⟨by omega, by simpa using hc⟩ (by omega) (by simp)
      · rw [hB] at hc
        have : R = true := by rw [← hc]; simp
        subst this
        repeat (refine PreK.intro (by first | omega | (intros; first | omega | (refine ⟨by omega, ?_⟩; simp_all; done) | (simp_all; done) | (simp_all; omega))) fun _ => ?_; (try simp [h1, h1b, hA, hB]))
        refine CondK.intro (fun h2 => ?_) (fun h2 => ?_)
        · try simp 
          apply hr
          try simp 
        · simp at h2
  · simp at h1
    rw [if_neg (by omega)] at hc
    subst hc
    try simp 
    apply he
    try simp 
end Go.Proofs.Ytkhddecnllcaiaa
end

section
/- Functions of the cut as the value layer reads them. (written by gen.py) -/
set_option maxRecDepth 20000
namespace Go.Proofs.Ytkhddecnllcaiaa
open Go.Abs Go

def A111 : ACode :=
  (.seq (.reg [] [⟨some 4, (.assign (.const (.int .u64 0))), 54, none⟩,
      ⟨some 5, (.assign (.const (.int .u64 0))), 54, none⟩])
    (.seq (.cond (.const (.bool false))
    (.seq (.reg [] [⟨some 11, (.move (.tmp 0)), 54, none⟩,
      ⟨some 12, (.convert 54 149 (.tmp 11)), 149, none⟩,
      ⟨some 13, (.move (.tmp 1)), 54, none⟩,
      ⟨some 14, (.convert 54 149 (.tmp 13)), 149, none⟩,
      ⟨some 15, (.call ⟨(.value (.func 120)), #[(.tmp 12), (.tmp 14)], #[149, 149]⟩), 150, none⟩,
      ⟨some 10, (.move (.tmp 15)), 150, none⟩,
      ⟨some 16, (.extract (.tmp 10) 0), 149, none⟩,
      ⟨some 17, (.extract (.tmp 10) 1), 149, none⟩,
      ⟨some 6, (.assign (.tmp 16)), 149, none⟩,
      ⟨some 7, (.assign (.tmp 17)), 149, none⟩])
    (.seq (.reg [] [⟨some 18, (.move (.tmp 6)), 149, none⟩,
      ⟨some 19, (.convert 149 54 (.tmp 18)), 54, none⟩,
      ⟨some 20, (.move (.tmp 7)), 149, none⟩,
      ⟨some 21, (.convert 149 54 (.tmp 20)), 54, none⟩,
      ⟨some 4, (.assign (.tmp 19)), 54, none⟩,
      ⟨some 5, (.assign (.tmp 21)), 54, none⟩])
    .ret))
    .skip)
    (.seq (.reg [] [⟨some 23, (.move (.tmp 0)), 54, none⟩,
      ⟨some 24, (.move (.tmp 1)), 54, none⟩,
      ⟨some 25, (.call ⟨(.value (.func 121)), #[(.tmp 23), (.tmp 24)], #[152, 152]⟩), 153, none⟩,
      ⟨some 22, (.move (.tmp 25)), 153, none⟩,
      ⟨some 26, (.extract (.tmp 22) 0), 152, none⟩,
      ⟨some 27, (.extract (.tmp 22) 1), 152, none⟩,
      ⟨some 8, (.assign (.tmp 26)), 152, none⟩,
      ⟨some 9, (.assign (.tmp 27)), 152, none⟩])
    (.seq (.reg [] [⟨some 28, (.move (.tmp 8)), 152, none⟩,
      ⟨some 29, (.move (.tmp 9)), 152, none⟩,
      ⟨some 4, (.assign (.tmp 28)), 54, none⟩,
      ⟨some 5, (.assign (.tmp 29)), 54, none⟩])
    .ret))))
theorem C111 {args : List AV} {r : AV} (hn : args.length ≤ 30) (h : vc Try.prog T [] A111 (Fin T [(.tmp 4), (.tmp 5)] r) ⟨envOf 0 args, []⟩) : CallP Try.prog 111 args r :=
  callP_of tok mixed Try.func111 (by kernel_rfl) (by kernel_rfl) (by kernel_rfl : Try.f111.ntmps = 30) (by kernel_rfl : Try.f111.body.bind (strip 30 (fun _ => [])) = some A111) hn h
def A121 : ACode :=
  (.seq (.reg [] [⟨some 4, (.assign (.const (.int .u64 0))), 152, none⟩,
      ⟨some 5, (.assign (.const (.int .u64 0))), 152, none⟩])
    (.seq (.reg [] [⟨some 14, (.move (.tmp 0)), 152, none⟩,
      ⟨some 15, (.binOp .and 152 (.tmp 14) (.const (.int .u64 4294967295)) 152), 152, none⟩,
      ⟨some 6, (.assign (.tmp 15)), 152, none⟩])
    (.seq (.reg [] [⟨some 16, (.move (.tmp 0)), 152, none⟩,
      ⟨some 17, (.binOp .shr 152 (.tmp 16) (.const (.int .u64 32)) 54), 152, none⟩,
      ⟨some 7, (.assign (.tmp 17)), 152, none⟩])
    (.seq (.reg [] [⟨some 18, (.move (.tmp 1)), 152, none⟩,
      ⟨some 19, (.binOp .and 152 (.tmp 18) (.const (.int .u64 4294967295)) 152), 152, none⟩,
      ⟨some 8, (.assign (.tmp 19)), 152, none⟩])
    (.seq (.reg [] [⟨some 20, (.move (.tmp 1)), 152, none⟩,
      ⟨some 21, (.binOp .shr 152 (.tmp 20) (.const (.int .u64 32)) 54), 152, none⟩,
      ⟨some 9, (.assign (.tmp 21)), 152, none⟩])
    (.seq (.reg [] [⟨some 22, (.move (.tmp 6)), 152, none⟩,
      ⟨some 23, (.move (.tmp 8)), 152, none⟩,
      ⟨some 24, (.binOp .mul 152 (.tmp 22) (.tmp 23) 152), 152, none⟩,
      ⟨some 10, (.assign (.tmp 24)), 152, none⟩])
    (.seq (.reg [] [⟨some 25, (.move (.tmp 7)), 152, none⟩,
      ⟨some 26, (.move (.tmp 8)), 152, none⟩,
      ⟨some 27, (.binOp .mul 152 (.tmp 25) (.tmp 26) 152), 152, none⟩,
      ⟨some 28, (.move (.tmp 10)), 152, none⟩,
      ⟨some 29, (.binOp .shr 152 (.tmp 28) (.const (.int .u64 32)) 54), 152, none⟩,
      ⟨some 30, (.binOp .add 152 (.tmp 27) (.tmp 29) 152), 152, none⟩,
      ⟨some 11, (.assign (.tmp 30)), 152, none⟩])
    (.seq (.reg [] [⟨some 31, (.move (.tmp 11)), 152, none⟩,
      ⟨some 32, (.binOp .and 152 (.tmp 31) (.const (.int .u64 4294967295)) 152), 152, none⟩,
      ⟨some 12, (.assign (.tmp 32)), 152, none⟩])
    (.seq (.reg [] [⟨some 33, (.move (.tmp 11)), 152, none⟩,
      ⟨some 34, (.binOp .shr 152 (.tmp 33) (.const (.int .u64 32)) 54), 152, none⟩,
      ⟨some 13, (.assign (.tmp 34)), 152, none⟩])
    (.seq (.reg [] [⟨some 35, (.move (.tmp 12)), 152, none⟩,
      ⟨some 36, (.move (.tmp 6)), 152, none⟩,
      ⟨some 37, (.move (.tmp 9)), 152, none⟩,
      ⟨some 38, (.binOp .mul 152 (.tmp 36) (.tmp 37) 152), 152, none⟩,
      ⟨some 39, (.binOp .add 152 (.tmp 35) (.tmp 38) 152), 152, none⟩,
      ⟨some 12, (.assign (.tmp 39)), 152, none⟩])
    (.seq (.reg [] [⟨some 40, (.move (.tmp 7)), 152, none⟩,
      ⟨some 41, (.move (.tmp 9)), 152, none⟩,
      ⟨some 42, (.binOp .mul 152 (.tmp 40) (.tmp 41) 152), 152, none⟩,
      ⟨some 43, (.move (.tmp 13)), 152, none⟩,
      ⟨some 44, (.binOp .add 152 (.tmp 42) (.tmp 43) 152), 152, none⟩,
      ⟨some 45, (.move (.tmp 12)), 152, none⟩,
      ⟨some 46, (.binOp .shr 152 (.tmp 45) (.const (.int .u64 32)) 54), 152, none⟩,
      ⟨some 47, (.binOp .add 152 (.tmp 44) (.tmp 46) 152), 152, none⟩,
      ⟨some 4, (.assign (.tmp 47)), 152, none⟩])
    (.seq (.reg [] [⟨some 48, (.move (.tmp 0)), 152, none⟩,
      ⟨some 49, (.move (.tmp 1)), 152, none⟩,
      ⟨some 50, (.binOp .mul 152 (.tmp 48) (.tmp 49) 152), 152, none⟩,
      ⟨some 5, (.assign (.tmp 50)), 152, none⟩])
    .ret))))))))))))
theorem C121 {args : List AV} {r : AV} (hn : args.length ≤ 51) (h : vc Try.prog T [] A121 (Fin T [(.tmp 4), (.tmp 5)] r) ⟨envOf 0 args, []⟩) : CallP Try.prog 121 args r :=
  callP_of tok mixed Try.func121 (by kernel_rfl) (by kernel_rfl) (by kernel_rfl : Try.f121.ntmps = 51) (by kernel_rfl : Try.f121.body.bind (strip 51 (fun _ => [])) = some A121) hn h
def A57 : ACode :=
  (.seq (.reg [] [⟨some 1, (.box 86 (.tmp 0)), 0, none⟩,
      ⟨some 2, (.assign (.const (.int .i64 0))), 3, none⟩,
      ⟨some 3, (.assign (.const (.bool false))), 4, none⟩])
    (.seq (.reg [] [⟨some 8, (.buildSlice 22 1 #[(0, (.const (.int .i64 (-2))))]), 22, none⟩,
      ⟨some 9, (.load 86 (.tmp 1)), 86, none⟩,
      ⟨some 10, (.nilCheck (.tmp 9)), 0, none⟩,
      ⟨some 11, (.fieldAddr 93 (.tmp 10) 1), 0, none⟩,
      ⟨some 12, (.load 45 (.tmp 11)), 45, none⟩,
      ⟨some 13, (.call ⟨(.builtin .len), #[(.tmp 12)], #[45]⟩), 3, none⟩,
      ⟨some 14, (.call ⟨(.value (.func 94)), #[(.tmp 8), (.tmp 13)], #[22, 3]⟩), 22, none⟩,
      ⟨some 4, (.alloc 22), 0, none⟩,
      ⟨none, (.store 22 (.tmp 4) (.tmp 14)), 0, none⟩])
    (.seq (.reg [] [⟨some 5, (.alloc 4), 0, none⟩,
      ⟨none, (.store 4 (.tmp 5) (.const (.bool false))), 0, none⟩])
    (.seq (.reg [] [⟨some 6, (.alloc 133), 0, none⟩])
    (.seq (.reg [] [⟨some 15, (.makeFunc (.func 95) #[] #[(.tmp 4), (.tmp 5), (.tmp 1), (.tmp 6)]), 133, none⟩,
      ⟨none, (.store 133 (.tmp 6) (.tmp 15)), 0, none⟩])
    (.seq (.reg [] [⟨some 16, (.load 133 (.tmp 6)), 133, none⟩,
      ⟨some 17, (.call ⟨(.value (.tmp 16)), #[(.const (.int .i64 0))], #[3]⟩), 3, none⟩,
      ⟨some 7, (.assign (.tmp 17)), 3, none⟩])
    (.seq (.seq (.reg [] [⟨some 18, (.load 4 (.tmp 5)), 4, none⟩])
    (.cond (.tmp 18)
    (.seq (.reg [] [⟨some 2, (.assign (.const (.int .i64 0))), 3, none⟩,
      ⟨some 3, (.assign (.const (.bool false))), 4, none⟩])
    .ret)
    .skip))
    (.seq (.reg [] [⟨some 19, (.move (.tmp 7)), 3, none⟩,
      ⟨some 2, (.assign (.tmp 19)), 3, none⟩,
      ⟨some 3, (.assign (.const (.bool true))), 4, none⟩])
    .ret))))))))
theorem C57 {args : List AV} {r : AV} (hn : args.length ≤ 20) (h : vc Try.prog T [] A57 (Fin T [(.tmp 2), (.tmp 3)] r) ⟨envOf 0 args, []⟩) : CallP Try.prog 57 args r :=
  callP_of tok mixed Try.func57 (by kernel_rfl) (by kernel_rfl) (by kernel_rfl : Try.f57.ntmps = 20) (by kernel_rfl : Try.f57.body.bind (strip 20 (fun _ => [])) = some A57) hn h

end Go.Proofs.Ytkhddecnllcaiaa
end

section
/- Plain: the longest walk, found by going deep. -/
namespace Go.Proofs.Ytkhddecnllcaiaa
open Go.Abs Go

variable {nx : Word → List Word}
/-- How far the search is: of each word the greatest number of steps, -2 before it is asked, -1 while it is; and whether a circle was met. -/
abbrev DS := List Int × Bool
def eachM (f : Nat → DS → DS × Int) : List Nat → DS → Int → DS × Int
  | [], s, m => (s, m)
  | j :: l, s, m => eachM f l (f j s).1 (max m ((f j s).2 + 1))
def downM (sc : Nat → List Nat) : Nat → Nat → DS → DS × Int
  | 0, _, s => (s, 0)
  | n + 1, i, s =>
    if el s.1 i = -1 then ((s.1, true), 0)
    else if el s.1 i ≠ -2 then (s, el s.1 i)
    else (((eachM (downM sc n) (sc i) (s.1.set i (-1), s.2) 0).1.1.set i (eachM (downM sc n) (sc i) (s.1.set i (-1), s.2) 0).2, (eachM (downM sc n) (sc i) (s.1.set i (-1), s.2) 0).1.2),
      (eachM (downM sc n) (sc i) (s.1.set i (-1), s.2) 0).2)
structure ScOK (nx : Word → List Word) (ws : List Word) (sc : Nat → List Nat) : Prop where
  lt : ∀ i, i < ws.length → ∀ j ∈ sc i, j < ws.length ∧ el ws j ∈ nx (el ws i)
  all : ∀ i, i < ws.length → ∀ x ∈ nx (el ws i), ∃ j ∈ sc i, el ws j = x
/-- How many have not been asked; how many are done. -/
def cntU (f : List Int) : Nat := f.countP fun x => decide (x = -2)
def cntC (f : List Int) : Nat := f.countP fun x => decide (0 ≤ x)
theorem countP_set {p : Int → Bool} : ∀ (l : List Int) (i : Nat) (v : Int), i < l.length → (l.set i v).countP p + (if p (el l i) then 1 else 0) = l.countP p + (if p v then 1 else 0)
  | [], i, v, h => by simp at h
  | x :: l, 0, v, _ => by
    simp only [List.set_cons_zero, List.countP_cons, el, List.getD_cons_zero]
    omega
  | x :: l, i + 1, v, h => by
    have ih := countP_set (p := p) l i v (by simpa using h)
    have e : el (x :: l) (i + 1) = el l i := by simp [el]
    rw [e]
    simp only [List.set_cons_succ, List.countP_cons]
    omega
/-- What is done is right. -/
def FineD (sc : Nat → List Nat) (f : List Int) : Prop := ∀ i, i < f.length → 0 ≤ el f i →
  (∀ j ∈ sc i, 0 ≤ el f j ∧ el f j + 1 ≤ el f i) ∧ (el f i = 0 ∨ ∃ j ∈ sc i, el f j + 1 = el f i)
/-- A circle. -/
def Cyc (nx : Word → List Word) (ws : List Word) : Prop := ∃ x ∈ ws, ∃ n, 1 ≤ n ∧ ReachN nx x n x
structure DOK (N : Nat) (f : List Int) : Prop where
  len : f.length = N
  low : ∀ k, k < N → -2 ≤ el f k
  top : ∀ k, k < N → el f k ≤ (cntC f : Int)
structure DStep (sc : Nat → List Nat) (N : Nat) (C : Prop) (f : List Int) (e : Bool) (f' : List Int) (e' : Bool) : Prop where
  ok : DOK N f'
  keep : ∀ k, k < N → el f k ≠ -2 → el f' k = el f k
  new : ∀ k, k < N → el f k = -2 → el f' k = -2 ∨ 0 ≤ el f' k
  cnt : cntU f' ≤ cntU f
  cyc : e' = true → e = true ∨ C
  fine : e' = false → e = false ∧ (FineD sc f → FineD sc f')
theorem DStep.trans {sc : Nat → List Nat} {N : Nat} {C : Prop} {f f' f'' : List Int} {e e' e'' : Bool} (h : DStep sc N C f e f' e') (k : DStep sc N C f' e' f'' e'') : DStep sc N C f e f'' e'' := by
  refine ⟨k.ok, fun i hi hn => ?_, fun i hi hn => ?_, Nat.le_trans k.cnt h.cnt, fun he => ?_, fun he => ?_⟩
  · have := h.keep i hi hn
    rw [k.keep i hi (by rw [this]; exact hn), this]
  · rcases h.new i hi hn with e | e
    · exact k.new i hi e
    · have := k.keep i hi (by omega)
      right; omega
  · rcases k.cyc he with e | e
    · exact h.cyc e
    · exact .inr e
  · obtain ⟨h1, h2⟩ := k.fine he
    obtain ⟨h3, h4⟩ := h.fine h1
    exact ⟨h3, fun hf => h2 (h4 hf)⟩
theorem DStep.refl {sc : Nat → List Nat} {N : Nat} {C : Prop} {f : List Int} {e : Bool} (h : DOK N f) : DStep sc N C f e f e :=
  ⟨h, fun _ _ _ => rfl, fun _ _ h => .inl h, Nat.le_refl _, fun h => .inl h, fun h => ⟨h, fun k => k⟩⟩
theorem cntC_le (f : List Int) : cntC f ≤ f.length := List.countP_le_length
theorem cntC_grow : ∀ {f f' : List Int}, f.length = f'.length → (∀ k, k < f.length → 0 ≤ el f k → 0 ≤ el f' k) → cntC f ≤ cntC f'
  | [], [], _, _ => Nat.le_refl _
  | [], _ :: _, h, _ => by simp at h
  | _ :: _, [], h, _ => by simp at h
  | x :: f, y :: f', h, hk => by
    have h0 := hk 0 (by simp)
    have ih := cntC_grow (f := f) (f' := f') (by simpa using h) fun k hk2 hx => by
      have := hk (k + 1) (by simpa using hk2) (by simpa [el] using hx)
      simpa [el] using this
    simp only [el, List.getD_cons_zero] at h0
    unfold cntC at *
    simp only [List.countP_cons]
    by_cases hx : 0 ≤ x
    · have := h0 hx
      simp [hx, this]; exact ih
    · simp [hx]; omega
theorem each_spec {ws : List Word} {sc : Nat → List Nat} {C : Prop} {d : Nat → DS → DS × Int} {i : Nat} {n : Nat}
    (hd : ∀ j ∈ sc i, ∀ (f : List Int) (e : Bool), DOK ws.length f → cntU f < n → (∀ k, k < ws.length → el f k = -1 → ∃ m, 1 ≤ m ∧ ReachN nx (el ws k) m (el ws j)) →
      DStep sc ws.length C f e (d j (f, e)).1.1 (d j (f, e)).1.2 ∧ 0 ≤ (d j (f, e)).2 ∧ (d j (f, e)).2 ≤ (cntC (d j (f, e)).1.1 : Int) ∧
      ((d j (f, e)).1.2 = false → FineD sc f → (d j (f, e)).2 = el (d j (f, e)).1.1 j ∧ 0 ≤ el (d j (f, e)).1.1 j)) :
    ∀ (l : List Nat) (f : List Int) (e : Bool) (m : Int), (∀ j ∈ l, j ∈ sc i ∧ j < ws.length) → DOK ws.length f → cntU f < n → 0 ≤ m → m ≤ (cntC f : Int) + 1 →
      (∀ j ∈ l, ∀ k, k < ws.length → el f k = -1 → ∃ m, 1 ≤ m ∧ ReachN nx (el ws k) m (el ws j)) →
      DStep sc ws.length C f e (eachM d l (f, e) m).1.1 (eachM d l (f, e) m).1.2 ∧ m ≤ (eachM d l (f, e) m).2 ∧ (eachM d l (f, e) m).2 ≤ (cntC (eachM d l (f, e) m).1.1 : Int) + 1 ∧
      ((eachM d l (f, e) m).1.2 = false → FineD sc f →
        (∀ j ∈ l, 0 ≤ el (eachM d l (f, e) m).1.1 j ∧ el (eachM d l (f, e) m).1.1 j + 1 ≤ (eachM d l (f, e) m).2) ∧
        ((eachM d l (f, e) m).2 = m ∨ ∃ j ∈ l, el (eachM d l (f, e) m).1.1 j + 1 = (eachM d l (f, e) m).2))
  | [], f, e, m, _, hf, _, _, hm, _ => by
    simp only [eachM]
    exact ⟨DStep.refl hf, Int.le_refl _, hm, fun _ _ => by simp⟩
  | j :: l, f, e, m, hl, hf, hn, h0, hm, hop => by
    obtain ⟨hj, hjl⟩ := hl j (by simp)
    obtain ⟨a1, a2, a3, a4⟩ := hd j hj f e hf hn (hop j (by simp))
    rw [eachM]
    generalize hq : d j (f, e) = q at *
    obtain ⟨⟨f', e'⟩, v⟩ := q
    dsimp only at *
    have hcc : cntC f ≤ cntC f' := cntC_grow (by rw [hf.len, a1.ok.len]) fun k hk hx => by
      rw [hf.len] at hk
      have := a1.keep k hk (by omega)
      omega
    have ih := each_spec hd l f' e' (max m (v + 1)) (fun x hx => hl x (by simp [hx])) a1.ok (by have := a1.cnt; omega) (by omega) (by omega) (fun x hx k hk hk1 => by
      refine hop x (by simp [hx]) k hk ?_
      by_cases h2 : el f k = -2
      · rcases a1.new k hk h2 with e | e <;> omega
      · have := a1.keep k hk h2; omega)
    obtain ⟨b1, b2, b3, b4⟩ := ih
    refine ⟨a1.trans b1, by omega, b3, fun he hfi => ?_⟩
    have he' := (b1.fine he).1
    have hfi' := (a1.fine he').2 hfi
    obtain ⟨c1, c2⟩ := b4 he hfi'
    obtain ⟨d1, d2⟩ := a4 he' hfi
    have hk := b1.keep j hjl (by omega)
    refine ⟨fun x hx => ?_, ?_⟩
    · rcases List.mem_cons.1 hx with rfl | hx
      · rw [hk]; exact ⟨d2, by omega⟩
      · exact c1 x hx
    · rcases c2 with e1 | ⟨x, hx, e1⟩
      · by_cases hmv : v + 1 ≤ m
        · left; omega
        · exact .inr ⟨j, by simp, by rw [hk]; omega⟩
      · exact .inr ⟨x, by simp [hx], e1⟩
theorem down_spec {ws : List Word} {sc : Nat → List Nat} (hsc : ∀ i, i < ws.length → ∀ j ∈ sc i, j < ws.length ∧ el ws j ∈ nx (el ws i)) : ∀ (n i : Nat), i < ws.length → ∀ (f : List Int) (e : Bool), DOK ws.length f → cntU f < n →
    (∀ k, k < ws.length → el f k = -1 → ∃ m, 1 ≤ m ∧ ReachN nx (el ws k) m (el ws i)) →
    DStep sc ws.length (Cyc nx ws) f e (downM sc n i (f, e)).1.1 (downM sc n i (f, e)).1.2 ∧ 0 ≤ (downM sc n i (f, e)).2 ∧ (downM sc n i (f, e)).2 ≤ (cntC (downM sc n i (f, e)).1.1 : Int) ∧
    ((downM sc n i (f, e)).1.2 = false → FineD sc f → (downM sc n i (f, e)).2 = el (downM sc n i (f, e)).1.1 i ∧ 0 ≤ el (downM sc n i (f, e)).1.1 i)
  | 0, i, hi, f, e, hf, hn, _ => by omega
  | n + 1, i, hi, f, e, hf, hn, hop => by
    rw [downM]
    by_cases h1 : el f i = -1
    · rw [if_pos (by exact h1)]
      obtain ⟨m, hm1, hm2⟩ := hop i hi h1
      dsimp only
      refine ⟨⟨hf, fun _ _ _ => rfl, fun _ _ h => .inl h, Nat.le_refl _, fun _ => .inr ⟨_, el_mem_of ws i hi, m, hm1, hm2⟩, fun h => by cases h⟩, by omega, by omega, fun h => by cases h⟩
    · rw [if_neg (by exact h1)]
      by_cases h2 : el f i = -2
      · rw [if_neg (by simpa using h2)]
        dsimp only
        have hil : i < f.length := by rw [hf.len]; exact hi
        have hU := countP_set (p := fun x => decide (x = -2)) f i (-1) hil
        have hC := countP_set (p := fun x => decide (0 ≤ x)) f i (-1) hil
        simp [h2] at hU hC
        have eC : cntC (f.set i (-1)) = cntC f := hC
        have eU : cntU (f.set i (-1)) + 1 = cntU f := hU
        have hop' : ∀ j ∈ sc i, ∀ k, k < ws.length → el (f.set i (-1)) k = -1 → ∃ m, 1 ≤ m ∧ ReachN nx (el ws k) m (el ws j) := by
          intro j hj k hk hk1
          have hx := (hsc i hi j hj).2
          by_cases hik : i = k
          · subst hik
            exact ⟨1, Nat.le_refl 1, .succ .zero hx⟩
          · rw [el_setG _ _ _ _ hil, if_neg hik] at hk1
            obtain ⟨m, hm1, hm2⟩ := hop k hk hk1
            exact ⟨m + 1, by omega, .succ hm2 hx⟩
        have hf' : DOK ws.length (f.set i (-1)) := by
          refine ⟨by simpa using hf.len, fun k hk => ?_, fun k hk => ?_⟩
          · rw [el_setG _ _ _ _ hil]
            have := hf.low k hk
            split <;> omega
          · rw [el_setG _ _ _ _ hil, eC]
            have := hf.top k hk
            split <;> omega
        have hE := each_spec (nx := nx) (ws := ws) (sc := sc) (C := Cyc nx ws) (d := downM sc n) (i := i) (n := n)
          (fun j hj g e' hg hgn hgo => down_spec hsc n j (hsc i hi j hj).1 g e' hg hgn hgo)
          (sc i) (f.set i (-1)) e 0 (fun j hj => ⟨hj, (hsc i hi j hj).1⟩) hf' (by omega) (by omega) (by omega) (fun j hj => hop' j hj)
        generalize hq : eachM (downM sc n) (sc i) (f.set i (-1), e) 0 = q at *
        obtain ⟨⟨g, e'⟩, v⟩ := q
        dsimp only at *
        obtain ⟨b1, b2, b3, b4⟩ := hE
        have hgl : i < g.length := by rw [b1.ok.len]; exact hi
        have hgi : el g i = -1 := by
          rw [b1.keep i hi ?_, el_setG _ _ _ _ hil, if_pos rfl]
          rw [el_setG _ _ _ _ hil, if_pos rfl]; decide
        have hCg := countP_set (p := fun x => decide (0 ≤ x)) g i v hgl
        have hUg := countP_set (p := fun x => decide (x = -2)) g i v hgl
        simp [hgi, b2, show v ≠ -2 by omega] at hCg hUg
        have eCg : cntC (g.set i v) = cntC g + 1 := hCg
        have eUg : cntU (g.set i v) = cntU g := hUg
        have hstep : DStep sc ws.length (Cyc nx ws) f e (g.set i v) e' := by
          refine ⟨⟨by simpa using b1.ok.len, fun k hk => ?_, fun k hk => ?_⟩, fun k hk hne => ?_, fun k hk hk2 => ?_, ?_, b1.cyc, fun he => ⟨(b1.fine he).1, fun hfi => ?_⟩⟩
          · rw [el_setG _ _ _ _ hgl]
            have := b1.ok.low k hk
            split <;> omega
          · rw [el_setG _ _ _ _ hgl, eCg]
            have := b1.ok.top k hk
            split <;> omega
          · have hik : ¬ i = k := fun e => hne (by rw [← e]; exact h2)
            rw [el_setG _ _ _ _ hgl, if_neg hik, b1.keep k hk ?_, el_setG _ _ _ _ hil, if_neg hik]
            rw [el_setG _ _ _ _ hil, if_neg hik]; exact hne
          · by_cases hik : i = k
            · rw [el_setG _ _ _ _ hgl, if_pos hik]; exact .inr b2
            · rw [el_setG _ _ _ _ hgl, if_neg hik]
              exact b1.new k hk (by rw [el_setG _ _ _ _ hil, if_neg hik]; exact hk2)
          · have := b1.cnt; omega
          · have hfi1 : FineD sc (f.set i (-1)) := by
              intro x hx hx0
              have hix : ¬ i = x := by
                intro e; subst e
                rw [el_setG _ _ _ _ hil, if_pos rfl] at hx0; omega
              rw [List.length_set] at hx
              rw [el_setG _ _ _ _ hil, if_neg hix] at hx0 ⊢
              obtain ⟨k1, k2⟩ := hfi x hx hx0
              refine ⟨fun j hj => ?_, ?_⟩
              · have := k1 j hj
                have hij : ¬ i = j := by intro e; subst e; omega
                rw [el_setG _ _ _ _ hil, if_neg hij]; exact this
              · rcases k2 with k2 | ⟨j, hj, k2⟩
                · exact .inl k2
                · have := k1 j hj
                  have hij : ¬ i = j := by intro e; subst e; omega
                  exact .inr ⟨j, hj, by rw [el_setG _ _ _ _ hil, if_neg hij]; exact k2⟩
            have hfg := (b1.fine he).2 hfi1
            obtain ⟨c1, c2⟩ := b4 he hfi1
            intro x hx hx0
            rw [List.length_set] at hx
            by_cases hix : i = x
            · subst hix
              rw [el_setG _ _ _ _ hgl, if_pos rfl]
              refine ⟨fun j hj => ?_, ?_⟩
              · have := c1 j hj
                have hij : ¬ i = j := by intro e; subst e; omega
                rw [el_setG _ _ _ _ hgl, if_neg hij]; exact this
              · rcases c2 with k2 | ⟨j, hj, k2⟩
                · exact .inl k2
                · have := c1 j hj
                  have hij : ¬ i = j := by intro e; subst e; omega
                  exact .inr ⟨j, hj, by rw [el_setG _ _ _ _ hgl, if_neg hij]; exact k2⟩
            · rw [el_setG _ _ _ _ hgl, if_neg hix] at hx0 ⊢
              obtain ⟨k1, k2⟩ := hfg x hx hx0
              refine ⟨fun j hj => ?_, ?_⟩
              · have := k1 j hj
                have hij : ¬ i = j := by intro e; subst e; omega
                rw [el_setG _ _ _ _ hgl, if_neg hij]; exact this
              · rcases k2 with k2 | ⟨j, hj, k2⟩
                · exact .inl k2
                · have := k1 j hj
                  have hij : ¬ i = j := by intro e; subst e; omega
                  exact .inr ⟨j, hj, by rw [el_setG _ _ _ _ hgl, if_neg hij]; exact k2⟩
        refine ⟨hstep, b2, by omega, fun _ _ => ?_⟩
        rw [el_setG _ _ _ _ hgl, if_pos rfl]
        exact ⟨rfl, b2⟩
      · rw [if_pos (by exact h2)]
        dsimp only
        have hlow := hf.low i hi
        have htop := hf.top i hi
        exact ⟨DStep.refl hf, by omega, htop, fun _ _ => ⟨rfl, by omega⟩⟩
theorem down_bnd {ws : List Word} {sc : Nat → List Nat} (hsc : ∀ i, i < ws.length → ∀ j ∈ sc i, j < ws.length) (n i : Nat) (hi : i < ws.length) (f : List Int) (e : Bool) (hf : DOK ws.length f) (hn : cntU f < n) :
    DOK ws.length (downM sc n i (f, e)).1.1 ∧ cntU (downM sc n i (f, e)).1.1 ≤ cntU f ∧ 0 ≤ (downM sc n i (f, e)).2 ∧ (downM sc n i (f, e)).2 ≤ (ws.length : Int) := by
  have h := down_spec (nx := fun _ => ws) (sc := sc) (fun i hi j hj => ⟨hsc i hi j hj, el_mem_of ws j (hsc i hi j hj)⟩) n i hi f e hf hn
    (fun k hk _ => ⟨1, Nat.le_refl 1, .succ .zero (el_mem_of ws i hi)⟩)
  obtain ⟨h1, h2, h3, _⟩ := h
  have h4 := cntC_le (downM sc n i (f, e)).1.1
  rw [h1.ok.len] at h4
  exact ⟨h1.ok, h1.cnt, h2, by omega⟩
theorem each_drop {d : Nat → DS → DS × Int} {α : Type} [Inhabited α] (l : List α) (c : α → Nat) (j : Nat) (hj : j < l.length) (st : DS) (m : Int) :
    eachM d ((l.drop j).map c) st m = eachM d ((l.drop (j + 1)).map c) (d (c (el l j)) st).1 (max m ((d (c (el l j)) st).2 + 1)) := by
  rw [drop_cons l j hj, List.map_cons, eachM]
theorem down_long {w : Word} {ws : List Word} {sc : Nat → List Nat} (ha : AllOK nx w ws) (hsc : ScOK nx ws sc) (hw : el ws 0 = w) (hl : 0 < ws.length) (n : Nat) (hn : ws.length < n) :
    LongR nx w (if (downM sc n 0 (List.replicate ws.length (-2), false)).1.2 then 0 else (downM sc n 0 (List.replicate ws.length (-2), false)).2) (!(downM sc n 0 (List.replicate ws.length (-2), false)).1.2) := by
  have hel : ∀ k, k < ws.length → el (List.replicate ws.length (-2 : Int)) k = -2 := by
    intro k hk
    rw [el_eq _ _ (by simpa using hk)]; simp
  have hok : DOK ws.length (List.replicate ws.length (-2)) := by
    refine ⟨by simp, fun k hk => ?_, fun k hk => ?_⟩
    · rw [hel k hk]; omega
    · rw [hel k hk]; omega
  have hc : cntU (List.replicate ws.length (-2)) < n := by
    have : cntU (List.replicate ws.length (-2)) ≤ (List.replicate ws.length (-2 : Int)).length := List.countP_le_length
    rw [List.length_replicate] at this
    omega
  have hs := down_spec hsc.lt n 0 hl (List.replicate ws.length (-2)) false hok hc (fun k hk h => by rw [hel k hk] at h; omega)
  generalize downM sc n 0 (List.replicate ws.length (-2), false) = q at *
  obtain ⟨⟨f, e⟩, v⟩ := q
  dsimp only at hs ⊢
  obtain ⟨s1, s2, s3, s4⟩ := hs
  have hf0 : FineD sc (List.replicate ws.length (-2)) := by
    intro i hi h0
    rw [List.length_replicate] at hi
    rw [hel i hi] at h0; omega
  cases e with
  | true =>
    refine ⟨fun h => (by cases h), fun _ => ⟨by simp, ?_⟩⟩
    rcases s1.cyc rfl with h | ⟨x, hx, m, hm, hr⟩
    · cases h
    · obtain ⟨d, hd⟩ := ha.reach x hx
      exact ever_of_cycle hd hm hr
  | false =>
    refine ⟨fun _ => ?_, fun h => (by cases h)⟩
    simp only [Bool.false_eq_true, if_false]
    obtain ⟨t1, t2⟩ := s4 rfl hf0
    have hfi := (s1.fine rfl).2 hf0
    have hfl := s1.ok.len
    refine ⟨⟨v.toNat, by omega, ?_⟩, fun m x hx => ?_⟩
    · have key : ∀ (m i : Nat), i < ws.length → el f i = (m : Int) → ∃ x, ReachN nx (el ws i) m x := by
        intro m
        induction m with
        | zero => exact fun i _ _ => ⟨_, .zero⟩
        | succ m ih =>
          intro i hi he
          obtain ⟨_, k2⟩ := hfi i (by omega) (by omega)
          rcases k2 with k2 | ⟨j, hj, k2⟩
          · omega
          · obtain ⟨hjl, hjx⟩ := hsc.lt i hi j hj
            obtain ⟨x, hx⟩ := ih j hjl (by omega)
            exact ⟨x, hx.cons hjx⟩
      have := key v.toNat 0 hl (by omega)
      rw [hw] at this
      exact this
    · have key : ∀ (m : Nat) (x : Word), ReachN nx w m x → ∃ q, q < ws.length ∧ el ws q = x ∧ 0 ≤ el f q ∧ (m : Int) + el f q ≤ v := by
        intro m
        induction m with
        | zero =>
          intro x hx
          cases hx
          exact ⟨0, hl, hw, t2, by omega⟩
        | succ m ih =>
          intro x hx
          cases hx with
          | succ h5 h6 =>
            obtain ⟨q, hq, rfl, h7, h8⟩ := ih _ h5
            obtain ⟨k1, _⟩ := hfi q (by omega) h7
            obtain ⟨j, hj, hjx⟩ := hsc.all q hq x h6
            have := k1 j hj
            exact ⟨j, (hsc.lt q hq j hj).1, hjx, this.1, by omega⟩
      obtain ⟨q, _, _, h1, h2⟩ := key m x hx
      omega
end Go.Proofs.Ytkhddecnllcaiaa
end

section
/- Contracts: feed's longest walk, found by going deep (the function that calls itself over captured variables). -/
namespace Go.Proofs.Ytkhddecnllcaiaa
open Go.Abs Go
set_option maxRecDepth 20000
set_option maxHeartbeats 2000000
attribute [local irreducible] PreK CondK CallK CallG CallX LoopK
attribute [local simp] avsEq avEq akind teq vkind vEq T_133

def posW (ws : List Word) (x : Word) : Nat := match mfind (.str (keyS x)) (entsF 0 ws) 0 with
  | some (i, _) => i
  | none => 0
theorem posW_spec {ws : List Word} {x : Word} (hf : ∀ y ∈ ws, fine y) (hx : x ∈ ws) : posW ws x < ws.length ∧ el ws (posW ws x) = x ∧ mfind (.str (keyS x)) (entsF 0 ws) 0 = some (posW ws x, iv (posW ws x : Int)) := by
  obtain ⟨i, h1, h2, h3⟩ := mfind_some (k := 0) (j := 0) hf hx
  have e : posW ws x = i := by
    unfold posW
    rw [h3]
    simp
  rw [e]
  refine ⟨h1, h2, ?_⟩
  rw [h3]
  simp
def scG (s : List Rule) (g : Gr) (i : Nat) : List Nat := (movesM s (el g.ws i)).map fun m => posW g.ws m.word
/-- What is reached is closed. -/
def Shut (s : List Rule) (g : Gr) : Prop := ∀ i, i < g.ws.length → ∀ m ∈ movesM s (el g.ws i), m.word ∈ g.ws
theorem scG_lt {s : List Rule} {g : Gr} (hok : g.ok) (hc : Shut s g) : ∀ i, i < g.ws.length → ∀ j ∈ scG s g i, j < g.ws.length := by
  intro i hi j hj
  obtain ⟨m, hm, rfl⟩ := List.mem_map.1 hj
  exact (posW_spec (fun x hx => fine_of (hok.fine x hx)) (hc i hi m hm)).1

theorem DOK.ok_set {N : Nat} {f : List Int} (h : DOK N f) {i : Nat} (hi : i < N) (h2 : el f i = -2) : DOK N (f.set i (-1)) ∧ cntU (f.set i (-1)) + 1 = cntU f := by
  have hil : i < f.length := by rw [h.len]; exact hi
  have hU := countP_set (p := fun x => decide (x = -2)) f i (-1) hil
  have hC := countP_set (p := fun x => decide (0 ≤ x)) f i (-1) hil
  simp [h2] at hU hC
  have eC : cntC (f.set i (-1)) = cntC f := hC
  refine ⟨⟨by simpa using h.len, fun k hk => ?_, fun k hk => ?_⟩, hU⟩
  · rw [el_setG _ _ _ _ hil]
    have := h.low k hk
    split <;> omega
  · rw [el_setG _ _ _ _ hil, eC]
    have := h.top k hk
    split <;> omega
def pts : List AV := [.pt 101 0 0 0, .pt 102 0 0 0, .pt 103 0 0 0, .pt 104 0 0 0]
def lgM (s : List Rule) (g : Gr) (f : List Int) (e : Bool) : List (Nat × Option Box) :=
  [(101, some ⟨1, [.sl 105 0 0 g.ws.length], 0, true⟩), (102, some ⟨1, [bv e], 0, true⟩), (103, some ⟨1, [.ipt (graphV s g) 0], 0, true⟩), (104, some ⟨1, [.fn 95 [] pts], 0, true⟩), (105, some ⟨1, f.map iv, 0, false⟩)]
def lgN : Names := [(101, 0, 101), (102, 0, 102), (103, 0, 103), (104, 0, 104), (105, 0, 105)]

theorem deep_b (s : List Rule) (g : Gr) (h : Sys.small s) (hs : sysErr s = 0) (hok : g.ok) (hc : Shut s g) : ∀ (n i : Nat) (f : List Int) (e : Bool), i < g.ws.length → DOK g.ws.length f → cntU f < n →
    CallB Try.prog 95 (iv i :: pts) (lgM s g f e) (iv (downM (scG s g) n i (f, e)).2) (lgM s g (downM (scG s g) n i (f, e)).1.1 (downM (scG s g) n i (f, e)).1.2)
  | 0, i, f, e, hi, hf, hn => by omega
  | n + 1, i, f, e, hi, hf, hn => by
    have hlen := hf.len
    have hil : i < f.length := by omega
    have hnum := hok.num
    have hlow := hf.low i hi
    have htop := hf.top i hi
    have hcle := cntC_le f
    by_cases h1 : el f i = -1
    · have e1 : downM (scG s g) (n + 1) i (f, e) = ((f, true), 0) := by rw [downM, if_pos (by exact h1)]
      rw [e1]
      refine CB95 (by simp [pts]) (by simp [lgM]) ?_
      simp [A95, lgM, pts, graphV]
      repeat (refine PreK.intro (by first | omega | (intros; first | omega | (refine ⟨by omega, ?_⟩; simp_all; done) | (simp_all; done) | (simp_all; omega))) fun _ => ?_; (try simp [hlen, hi, hil]))
      refine CondK.intro (fun h3 => ?_) (fun h3 => ?_)
      · repeat (refine PreK.intro (by first | omega | (intros; first | omega | (refine ⟨by omega, ?_⟩; simp_all; done) | (simp_all; done) | (simp_all; omega))) fun _ => ?_; (try simp [hlen, hi, hil]))
      · simp at h3; omega
    · by_cases h2 : el f i = -2
      · generalize hR : eachM (downM (scG s g) n) (scG s g i) (f.set i (-1), e) 0 = RA
        have e1 : downM (scG s g) (n + 1) i (f, e) = ((RA.1.1.set i RA.2, RA.1.2), RA.2) := by rw [downM, if_neg (by exact h1), if_neg (by simpa using h2), hR]
        rw [e1]
        have hmc := moves_c s (el g.ws i) h hs (hok.fine _ (el_mem_of g.ws i hi))
        have hln : lgN = [(101, 0, 101), (102, 0, 102), (103, 0, 103), (104, 0, 104), (105, 0, 105)] := rfl
        refine CB95 (by simp [pts]) (by simp [lgM]) ?_
        simp [A95, lgM, pts, graphV]
        repeat (refine PreK.intro (by first | omega | (intros; first | omega | (refine ⟨by omega, ?_⟩; simp_all; done) | (simp_all; done) | (simp_all; omega))) fun _ => ?_; (try simp [hlen, hi, hil]))
        refine CondK.intro (fun h3 => ?_) (fun h3 => ?_)
        · simp at h3; omega
        · repeat (refine PreK.intro (by first | omega | (intros; first | omega | (refine ⟨by omega, ?_⟩; simp_all; done) | (simp_all; done) | (simp_all; omega))) fun _ => ?_; (try simp [hlen, hi, hil]))
          refine CondK.intro (fun h4 => ?_) (fun h4 => ?_)
          · simp at h4; omega
          · repeat (refine PreK.intro (by first | omega | (intros; first | omega | (refine ⟨by omega, ?_⟩; simp_all; done) | (simp_all; done) | (simp_all; omega))) fun _ => ?_; (try simp [hlen, hi, hil]))
            refine CallK.intro (by simpa using hmc) (by simp) (by simp) ?_
            try simp [hlen, hi, hil]
            repeat (refine PreK.intro (by first | omega | (intros; first | omega | (refine ⟨by omega, ?_⟩; simp_all; done) | (simp_all; done) | (simp_all; omega))) fun _ => ?_; (try simp [hlen, hi, hil]))
            have hfs := hf.ok_set hi h2
            have hml := movesM_len hs (hok.fine _ (el_mem_of g.ws i hi))
            generalize hms : movesM s (el g.ws i) = ms at *
            refine LoopK.by (ι := Nat × List Int × Bool × Int) (fun x => ⟨[(40, iv x.1), (39, iv ms.length), (38, movesV ms), (7, iv x.2.2.2), (0, iv i), (1, .pt 101 0 0 0), (3, .pt 103 0 0 0), (4, .pt 104 0 0 0)], lgM s g x.2.1 x.2.2.1⟩)
              (fun x => ms.length - x.1) (fun x => x.1 ≤ ms.length ∧ DOK g.ws.length x.2.1 ∧ cntU x.2.1 < n ∧ 0 ≤ x.2.2.2 ∧ x.2.2.2 ≤ g.ws.length + 1 ∧ eachM (downM (scG s g) n) ((ms.drop x.1).map fun m => posW g.ws m.word) (x.2.1, x.2.2.1) x.2.2.2 = RA)
              (0, f.set i (-1), e, 0) ⟨Nat.zero_le _, hfs.1, by have := hfs.2; dsimp only; omega, Int.le_refl 0, by dsimp only; omega, by simpa [scG, hms] using hR⟩ (by simp [lgM, pts, graphV]) ?_
            intro ⟨j, f', e', m⟩ Q' ⟨hj, hf', hn', hm0, hm1, hc'⟩ hq he hr
            dsimp only at hj hf' hn' hm0 hm1 hc'
            have hlen' := hf'.len
            simp only [lgM, pts, graphV]
            repeat (refine PreK.intro (by first | omega | (intros; first | omega | (refine ⟨by omega, ?_⟩; simp_all; done) | (simp_all; done) | (simp_all; omega))) fun _ => ?_; (try simp [hlen', hi]))
            refine CondK.intro (fun h5 => ?_) (fun h5 => ?_)
            · simp at h5
              rw [each_drop ms _ j h5] at hc'
              have hm := hc i hi (el ms j) (by rw [hms]; exact el_mem_of ms j h5)
              have hw := hok.fine _ hm
              have hkc := key_c (el ms j).word (by have := (wordErr_zero hw).1; omega) (fine_of hw)
              obtain ⟨q1, _, q3⟩ := posW_spec (fun x hx => fine_of (hok.fine x hx)) hm
              generalize posW g.ws (el ms j).word = q at *
              have hdb := deep_b s g h hs hok hc n q f' e' q1 hf' hn'
              have hbd := down_bnd (scG_lt hok hc) n q q1 f' e' hf' hn'
              generalize downM (scG s g) n q (f', e') = D at *
              obtain ⟨⟨f2, e2⟩, v⟩ := D
              dsimp only at hbd hdb hc'
              simp only [lgM, pts, graphV] at hdb
              repeat (refine PreK.intro (by first | omega | (intros; first | omega | (refine ⟨by omega, ?_⟩; simp_all; done) | (simp_all; done) | (simp_all; omega))) fun _ => ?_; (try simp [hlen', hi, h5, q3, keysOK_ents]))
              refine CallK.intro (by simpa using hkc) (by simp) (by simp) ?_
              try simp [q3, keysOK_ents]
              repeat (refine PreK.intro (by first | omega | (intros; first | omega | (refine ⟨by omega, ?_⟩; simp_all; done) | (simp_all; done) | (simp_all; omega))) fun _ => ?_; (try simp [hlen', hi, h5, q3, keysOK_ents]))
              refine CallK.boxes [(101, 0, 101), (102, 0, 102), (103, 0, 103), (104, 0, 104), (105, 0, 105)] (by simp) (by simpa using hdb) ?_
              obtain ⟨b1, b2, b3, b4⟩ := hbd
              have hmx : max m (v + 1) = if m < v + 1 then v + 1 else m := by split <;> omega
              rw [hmx] at hc'
              have hm2 : 0 ≤ (if m < v + 1 then v + 1 else m) ∧ (if m < v + 1 then v + 1 else m) ≤ (g.ws.length : Int) + 1 := by split <;> omega
              try simp 
              repeat (refine PreK.intro (by first | omega | (intros; first | omega | (refine ⟨by omega, ?_⟩; simp_all; done) | (simp_all; done) | (simp_all; omega))) fun _ => ?_; (try simp ))
              exact hq (j + 1, f2, e2, if m < v + 1 then v + 1 else m) _ ⟨by dsimp only; omega, b1, by dsimp only; omega, hm2.1, hm2.2, hc'⟩ (by dsimp only; omega) (by simp [lgM, pts, graphV])
            · simp at h5
              rw [List.drop_eq_nil_of_le (by omega)] at hc'
              simp only [List.map_nil, eachM] at hc'
              subst hc'
              have hil' : i < f'.length := by omega
              try simp 
              apply he
              repeat (refine PreK.intro (by first | omega | (intros; first | omega | (refine ⟨by omega, ?_⟩; simp_all; done) | (simp_all; done) | (simp_all; omega))) fun _ => ?_; (try simp [hlen', hi, hil']))
      · have e1 : downM (scG s g) (n + 1) i (f, e) = ((f, e), el f i) := by rw [downM, if_neg (by exact h1), if_pos (by exact h2)]
        rw [e1]
        refine CB95 (by simp [pts]) (by simp [lgM]) ?_
        simp [A95, lgM, pts, graphV]
        repeat (refine PreK.intro (by first | omega | (intros; first | omega | (refine ⟨by omega, ?_⟩; simp_all; done) | (simp_all; done) | (simp_all; omega))) fun _ => ?_; (try simp [hlen, hi, hil]))
        refine CondK.intro (fun h3 => ?_) (fun h3 => ?_)
        · simp at h3; omega
        · repeat (refine PreK.intro (by first | omega | (intros; first | omega | (refine ⟨by omega, ?_⟩; simp_all; done) | (simp_all; done) | (simp_all; omega))) fun _ => ?_; (try simp [hlen, hi, hil]))
          refine CondK.intro (fun h4 => ?_) (fun h4 => ?_)
          · repeat (refine PreK.intro (by first | omega | (intros; first | omega | (refine ⟨by omega, ?_⟩; simp_all; done) | (simp_all; done) | (simp_all; omega))) fun _ => ?_; (try simp [hlen, hi, hil]))
          · simp at h4; omega
end Go.Proofs.Ytkhddecnllcaiaa
end
