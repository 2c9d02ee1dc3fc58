/- Part 6 of the proof: the value layer and the contracts of the functions that the statement reaches; proved without conditions beyond those each theorem states. -/
import Derived.Test.YtaooenmkofjafaaV5
set_option linter.unusedSimpArgs false
set_option linter.unusedVariables false

section
/- Contracts: rules that are not used; a system without a rule; the statement FeedUnused. -/
namespace Go.Proofs.Ytaooenmkofjafaa
open Go.Abs Go
set_option maxRecDepth 20000
set_option maxHeartbeats 2000000
attribute [local irreducible] PreK CondK CallK CallG CallX LoopK
attribute [local simp] avsEq avEq akind teq vkind vEq

theorem has1_c (l : List Int) (n : Int) (hl : l.length ≤ big) : CallP Try.prog 67 [ints l, iv n] (bv (l.contains n)) := by
  refine C67 (by simp) ?_
  generalize hR : l.contains n = R
  simp only [big] at hl
  simp [A67]
  refine LoopK.by (fun i : Nat => ⟨[(5, iv i), (0, ints l), (1, iv n)], []⟩) (fun i => l.length - i) (fun i => i ≤ l.length ∧ (l.drop i).contains n = R) 0 (by simpa using hR) (by simp) ?_
  intro i Q' ⟨hi, hc⟩ hq he hr
  try simp 
  refine CondK.intro (fun h1 => ?_) (fun h1 => ?_)
  · simp at h1
    rw [drop_cons l i h1, List.contains_cons] at hc
    repeat (refine PreK.intro (by first | omega | (intros; first | omega | (refine ⟨by omega, ?_⟩; simp_all; done) | (simp_all; done) | (simp_all; omega))) fun _ => ?_; (try simp [h1]))
    refine CondK.intro (fun h2 => ?_) (fun h2 => ?_)
    · simp [h1] at h2
      simp [h2] at hc
      try simp 
      apply hr
      simp [← hc]
    · simp [h1] at h2
      rw [show (n == el l i) = false by simp; exact fun e => h2 e.symm] at hc
      repeat (refine PreK.intro (by first | omega | (intros; first | omega | (refine ⟨by omega, ?_⟩; simp_all; done) | (simp_all; done) | (simp_all; omega))) fun _ => ?_; (try simp ))
      exact hq (i + 1) _ ⟨by omega, by simpa using hc⟩ (by omega) (by simp)
  · simp at h1
    rw [List.drop_eq_nil_of_le (by omega)] at hc
    simp at hc
    try simp 
    apply he
    simp [← hc]
def WithoutR (s : List Rule) (k : Int) : List Rule × Int := if sysErr s ≠ 0 then ([], sysErr s) else if (decide (0 ≤ k) && decide (k ≤ (s.length : Int) - 1)) = false then ([], 4) else (s.eraseIdx k.toNat, 0)
def dropF (k : Nat) : Nat → List Rule → List Rule
  | _, [] => []
  | i, r :: l => if i = k then dropF k (i + 1) l else r :: dropF k (i + 1) l
theorem dropF_all (k : Nat) : ∀ (l : List Rule) (i : Nat), k < i → dropF k i l = l
  | [], i, _ => rfl
  | r :: l, i, h => by rw [dropF, if_neg (by omega), dropF_all k l (i + 1) (by omega)]
theorem dropF_erase : ∀ (l : List Rule) (i j : Nat), dropF (i + j) i l = l.eraseIdx j
  | [], i, j => by simp [dropF]
  | r :: l, i, 0 => by rw [dropF, if_pos (by omega), dropF_all _ _ _ (by omega)]; rfl
  | r :: l, i, j + 1 => by
    rw [dropF, if_neg (by omega), show i + (j + 1) = (i + 1) + j by omega, dropF_erase l (i + 1) j]
    rfl
theorem Without_c (s : List Rule) (k : Int) (h : Sys.small s) : CallP Try.prog 96 [rulesV s, iv k] (.tup [rulesV (WithoutR s k).1, iv (WithoutR s k).2]) := by
  refine C96 (by simp) ?_
  have hsl := h.1
  simp [A96]
  try simp 
  repeat' (first
    | (refine CallX.pure (Validate_c s h) (by simp) (by simp) ?_; try simp )
    | (refine CallK.intro (Validate_c s h) (by simp) (by simp) ?_; try simp )
    | (refine CallG.intro (fun _ => Validate_c s h) (by simp) (by simp) ?_; try simp )
    | ((with_reducible refine PreK.intro ?_ ?_); (next => (first | omega | (intros; first | omega | (refine ⟨by omega, ?_⟩; repeat (first | assumption | constructor)) | assumption))); intro _; try simp )
    | fail)
  refine CondK.intro (fun h1 => ?_) (fun h1 => ?_)
  · simp at h1
    simp [WithoutR, h1]
  · simp at h1
    try simp 
    repeat' (first
      | (refine CallX.pure (fwithin_c k 0 ((s.length : Int) - 1)) (by simp) (by simp) ?_; try simp )
      | (refine CallK.intro (fwithin_c k 0 ((s.length : Int) - 1)) (by simp) (by simp) ?_; try simp )
      | (refine CallG.intro (fun _ => fwithin_c k 0 ((s.length : Int) - 1)) (by simp) (by simp) ?_; try simp )
      | ((with_reducible refine PreK.intro ?_ ?_); (next => (first | omega | (intros; first | omega | (refine ⟨by omega, ?_⟩; repeat (first | assumption | constructor)) | assumption))); intro _; try simp )
      | fail)
    refine CondK.intro (fun h2 => ?_) (fun h2 => ?_)
    · have h2' : (decide (0 ≤ k) && decide (k ≤ (s.length : Int) - 1)) = false := by
        try simp at h2
        simp only [Bool.and_eq_false_iff, decide_eq_false_iff_not]; omega
      have e : WithoutR s k = ([], 4) := by unfold WithoutR; rw [if_neg (by simp [h1]), if_pos h2']
      rw [e]
      try simp 
    · have h2' : (decide (0 ≤ k) && decide (k ≤ (s.length : Int) - 1)) = true := by
        try simp at h2
        simp only [Bool.and_eq_true, decide_eq_true_eq]; omega
      have e : WithoutR s k = (s.eraseIdx k.toNat, 0) := by unfold WithoutR; rw [if_neg (by simp [h1]), if_neg (by rw [h2']; simp)]
      rw [e]
      simp only [Bool.and_eq_true, decide_eq_true_eq] at h2'
      obtain ⟨n, rfl⟩ : ∃ n : Nat, k = (n : Int) := ⟨k.toNat, by omega⟩
      have hE := dropF_erase s 0 n
      simp only [Nat.zero_add] at hE
      rw [Int.toNat_natCast, ← hE]
      generalize hR : dropF n 0 s = R
      try simp 
      refine LoopK.by (ι := Nat × Nat × List Rule) (fun x => ⟨[(23, iv x.1), (22, iv s.length), (21, rulesV s), (1, iv n), (7, .sl 7 x.2.1 0 x.2.2.length)], [(7, some ⟨4, x.2.2.map ruleV, x.2.1, false⟩)]⟩) (fun x => s.length - x.1)
        (fun x => x.1 ≤ s.length ∧ x.2.2.length ≤ x.1 ∧ x.2.2 ++ dropF n x.1 (s.drop x.1) = R) (0, 1, []) ⟨by simp, by simp, by simpa using hR⟩ (by simp) ?_
      intro ⟨i, v, acc⟩ Q' ⟨hi, hal, hc⟩ hq he hr
      dsimp only at hi hal hc
      try simp 
      refine CondK.intro (fun h3 => ?_) (fun h3 => ?_)
      · simp at h3
        obtain ⟨k1, k2, k3⟩ := h.el h3
        rw [drop_cons s i h3, dropF] at hc
        repeat (refine PreK.intro (by first | omega | (intros; first | omega | (refine ⟨by omega, ?_⟩; simp_all; done) | (simp_all; done) | (simp_all; omega))) fun _ => ?_; (try simp [h3]))
        refine CondK.intro (fun h4 => ?_) (fun h4 => ?_)
        · simp at h4
          rw [if_neg (by omega)] at hc
          try simp [h3]
          repeat (refine PreK.intro (by first | omega | (intros; first | omega | (refine ⟨by omega, ?_⟩; simp_all; done) | (simp_all; done) | (simp_all; omega))) fun _ => ?_; (try simp [h3]))
          refine CallK.intro (by simpa using (clone_o (el s i).to k1).toP) (by simp) (by simp) ?_
          try simp [h3]
          repeat (refine PreK.intro (by first | omega | (intros; first | omega | (refine ⟨by omega, ?_⟩; simp_all; done) | (simp_all; done) | (simp_all; omega))) fun _ => ?_; (try simp ))
          refine CallK.intro (by simpa using (clone_o (el s i).left k2).toP) (by simp) (by simp) ?_
          try simp [h3]
          repeat (refine PreK.intro (by first | omega | (intros; first | omega | (refine ⟨by omega, ?_⟩; simp_all; done) | (simp_all; done) | (simp_all; omega))) fun _ => ?_; (try simp ))
          refine CallK.intro (by simpa using (clone_o (el s i).right k3).toP) (by simp) (by simp) ?_
          try simp [h3]
          repeat (refine PreK.intro (by first | omega | (intros; first | omega | (refine ⟨by omega, ?_⟩; simp_all; done) | (simp_all; done) | (simp_all; omega))) fun _ => ?_; (try simp ))
          exact hq (i + 1, v + 1, acc ++ [el s i]) _ ⟨by dsimp only; omega, by simp; omega, by simpa using hc⟩ (by dsimp only; omega) (by simp)
        · simp at h4
          rw [if_pos (by omega)] at hc
          repeat (refine PreK.intro (by first | omega | (intros; first | omega | (refine ⟨by omega, ?_⟩; simp_all; done) | (simp_all; done) | (simp_all; omega))) fun _ => ?_; (try simp ))
          exact hq (i + 1, v, acc) _ ⟨by dsimp only; omega, by dsimp only; omega, hc⟩ (by dsimp only; omega) (by simp)
      · simp at h3
        rw [List.drop_eq_nil_of_le (by omega), dropF] at hc
        simp only [List.append_nil] at hc
        subst hc
        try simp 
        apply he
        try simp 
        repeat' (first
          | ((with_reducible refine PreK.intro ?_ ?_); (next => (first | omega | (intros; first | omega | (refine ⟨by omega, ?_⟩; repeat (first | assumption | constructor)) | assumption))); intro _; try simp )
          | fail)
/-- The numbers of the rules that are in no step. -/
def unusedM (s : List Rule) (ws : List Word) : List Int := ((List.range s.length).filter fun k => !ws.any (hasRule s k)).map fun k : Nat => (k : Int)
def UnusedR (s : List Rule) (w : Word) : List Int × Int := if swErr s w ≠ 0 then ([], swErr s w) else match reachG s w with
  | none => ([], 3)
  | some g => (unusedM s g.ws, 0)
def outU (c : List Bool) : Nat → List Bool → List Int
  | _, [] => []
  | k, b :: l => if b then outU c (k + 1) l else (k : Int) :: outU c (k + 1) l
theorem moves_rule {s : List Rule} {u : Word} {m : Move} (h : m ∈ movesM s u) : ∃ k : Nat, k < s.length ∧ m.step.rule = (k : Int) := by
  obtain ⟨i, h1, h2, _⟩ := movesF_mem s 0 m h
  exact ⟨i, h1, by rw [h2]; congr 1; omega⟩
/-- What is noted of the rules. -/
structure UsedC (s : List Rule) (f : Nat → Bool) (c : List Bool) : Prop where
  len : c.length = s.length
  at' : ∀ k, k < s.length → el c k = f k
theorem UsedC.set {s : List Rule} {f : Nat → Bool} {c : List Bool} (h : UsedC s f c) {q : Nat} (hq : q < s.length) : UsedC s (fun k => f k || decide ((q : Int) = (k : Int))) (c.set q true) := by
  refine ⟨by simpa using h.len, fun k hk => ?_⟩
  rw [el_setG _ _ _ _ (by rw [h.len]; exact hq), h.at' k hk]
  by_cases e : q = k
  · subst e; simp
  · rw [if_neg e]
    have : ¬ ((q : Int) = (k : Int)) := by omega
    simp [this]
theorem outU_range (s : List Rule) (f : Nat → Bool) (c : List Bool) (h : UsedC s f c) : ∀ (n i : Nat), i + n = s.length → outU c i (c.drop i) = ((List.range' i n).filter fun k => !f k).map fun k : Nat => (k : Int)
  | 0, i, hn => by
    rw [List.drop_eq_nil_of_le (by have := h.len; omega)]; rfl
  | n + 1, i, hn => by
    have hi : i < c.length := by rw [h.len]; omega
    rw [drop_cons c i hi, outU, outU_range s f c h n (i + 1) (by omega), h.at' i (by omega), List.range'_succ]
    cases hf : f i <;> simp [hf]
theorem outU_all {s : List Rule} {ws : List Word} {c : List Bool} (h : UsedC s (fun k => ws.any (hasRule s k)) c) : outU c 0 c = unusedM s ws := by
  have := outU_range s _ c h s.length 0 (by omega)
  rw [List.drop_zero, ← List.range_eq_range'] at this
  exact this
theorem UsedC.congr {s : List Rule} {f f' : Nat → Bool} {c : List Bool} (h : UsedC s f c) (e : ∀ k, f k = f' k) : UsedC s f' c := ⟨h.len, fun k hk => by rw [h.at' k hk, e]⟩
theorem UsedC.start (s : List Rule) : UsedC s (fun _ => false) (List.replicate s.length false) := by
  refine ⟨by simp, fun k hk => ?_⟩
  rw [el_eq _ _ (by simpa using hk)]; simp

theorem Unused_c (s : List Rule) (w : List Int) (h : Sys.small s) (hw : w.length ≤ 1000) : CallP Try.prog 95 [rulesV s, ints w] (.tup [ints (UnusedR s w).1, iv (UnusedR s w).2]) := by
  refine C95 (by simp) ?_
  have hrc := reached_c s w h hw
  by_cases h1 : swErr s w = 0
  · have e1 : reachedV s w = reachV s (reachG s w) := by simp [reachedV, h1]
    rw [e1] at hrc
    obtain ⟨hs0, hw0⟩ := swErr_zero h1
    obtain ⟨hs6, _⟩ := sysErr_zero hs0
    cases hg : reachG s w with
    | none =>
      rw [hg] at hrc
      have e2 : UnusedR s w = ([], 3) := by simp [UnusedR, h1, hg]
      rw [e2]
      simp only [reachV] at hrc
      simp [A95]
      try simp 
      repeat' (first
        | (refine CallX.pure (hrc) (by simp) (by simp) ?_; try simp )
        | (refine CallK.intro (hrc) (by simp) (by simp) ?_; try simp )
        | (refine CallG.intro (fun _ => hrc) (by simp) (by simp) ?_; try simp )
        | ((with_reducible refine PreK.intro ?_ ?_); (next => (first | omega | (intros; first | omega | (refine ⟨by omega, ?_⟩; repeat (first | assumption | constructor)) | assumption))); intro _; try simp )
        | fail)
      refine CondK.intro (fun h2 => ?_) (fun h2 => ?_)
      · try simp 
        repeat' (first
          | ((with_reducible refine PreK.intro ?_ ?_); (next => (first | omega | (intros; first | omega | (refine ⟨by omega, ?_⟩; repeat (first | assumption | constructor)) | assumption))); intro _; try simp )
          | fail)
      · simp at h2
    | some g =>
      rw [hg] at hrc
      have hok := reachG_ok h1 hg
      have hnum := hok.num
      have e2 : UnusedR s w = (unusedM s g.ws, 0) := by simp [UnusedR, h1, hg]
      rw [e2]
      generalize hR0 : unusedM s g.ws = R
      simp only [reachV, graphV] at hrc
      simp [A95]
      try simp 
      repeat' (first
        | (refine CallX.pure (hrc) (by simp) (by simp) ?_; try simp )
        | (refine CallK.intro (hrc) (by simp) (by simp) ?_; try simp )
        | (refine CallG.intro (fun _ => hrc) (by simp) (by simp) ?_; try simp )
        | ((with_reducible refine PreK.intro ?_ ?_); (next => (first | omega | (intros; first | omega | (refine ⟨by omega, ?_⟩; repeat (first | assumption | constructor)) | assumption))); intro _; try simp )
        | fail)
      refine CondK.intro (fun h2 => ?_) (fun h2 => ?_)
      · simp at h2
      · repeat (refine PreK.intro (by first | omega | (intros; first | omega | (refine ⟨by omega, ?_⟩; simp_all; done) | (simp_all; done) | (simp_all; omega))) fun _ => ?_; (try simp ))
        refine LoopK.by (ι := Nat × List Bool) (fun x => ⟨[(33, iv x.1), (32, iv g.ws.length), (31, wordsV g.ws), (8, .sl 27 1 0 s.length), (0, rulesV s)], [(27, some ⟨1, x.2.map bv, 1, false⟩)]⟩) (fun x => g.ws.length - x.1)
          (fun x => x.1 ≤ g.ws.length ∧ UsedC s (fun k => (g.ws.take x.1).any (hasRule s k)) x.2) (0, List.replicate s.length false) ⟨by simp, (UsedC.start s).congr fun k => by simp⟩ (by simp) ?_
        intro ⟨i, c⟩ Q' ⟨hi, hc⟩ hq he hr
        dsimp only at hi hc
        have hcl := hc.len
        try simp 
        refine CondK.intro (fun h3 => ?_) (fun h3 => ?_)
        · simp at h3
          have hu := hok.fine _ (el_mem_of g.ws i h3)
          have hmc := moves_c s (el g.ws i) h hs0 hu
          have hrl := fun m hm => @moves_rule s (el g.ws i) m hm
          have hml := movesM_len hs0 hu
          have hhr : ∀ k, hasRule s k (el g.ws i) = (movesM s (el g.ws i)).any fun m => decide (m.step.rule = (k : Int)) := fun k => rfl
          generalize movesM s (el g.ws i) = ms at hmc hrl hml hhr
          try simp [h3]
          repeat' (first
            | (refine CallX.pure (hmc) (by simp) (by simp) ?_; try simp [h3])
            | (refine CallK.intro (hmc) (by simp) (by simp) ?_; try simp [h3])
            | (refine CallG.intro (fun _ => hmc) (by simp) (by simp) ?_; try simp [h3])
            | ((with_reducible refine PreK.intro ?_ ?_); (next => (first | omega | (intros; first | omega | (refine ⟨by omega, ?_⟩; repeat (first | assumption | constructor)) | assumption))); intro _; try simp [h3])
            | fail)
          refine LoopK.by (ι := Nat × List Bool) (fun x => ⟨[(41, iv x.1), (40, iv ms.length), (39, movesV ms), (33, iv i), (32, iv g.ws.length), (31, wordsV g.ws), (8, .sl 27 1 0 s.length), (0, rulesV s)], [(27, some ⟨1, x.2.map bv, 1, false⟩)]⟩) (fun x => ms.length - x.1)
            (fun x => x.1 ≤ ms.length ∧ UsedC s (fun k => (g.ws.take i).any (hasRule s k) || (ms.take x.1).any fun m => decide (m.step.rule = (k : Int))) x.2) (0, c) ⟨by simp, hc.congr fun k => by simp⟩ (by simp [hcl]) ?_
          intro ⟨j, d⟩ Q'' ⟨hj, hd⟩ hq' he' hr'
          dsimp only at hj hd
          have hdl := hd.len
          try simp 
          refine CondK.intro (fun h4 => ?_) (fun h4 => ?_)
          · simp at h4
            obtain ⟨k, k1, k2⟩ := hrl _ (el_mem_of ms j h4)
            have k3 : k < d.length := by omega
            have hnb := nth_map bv d k k3
            repeat (refine PreK.intro (by first | omega | (intros; first | omega | (refine ⟨by omega, ?_⟩; simp_all; done) | (simp_all; done) | (simp_all; omega))) fun _ => ?_; (try simp [h4, k2, k1, k3, hdl, hnb]))
            repeat (refine PreK.intro (by first | omega | (intros; first | omega | (refine ⟨by omega, ?_⟩; simp_all; done) | (simp_all; done) | (simp_all; omega))) fun _ => ?_; (try simp [h4, k2, k1, k3, hdl, hnb]))
            refine hq' (j + 1, d.set k true) _ ⟨by dsimp only; omega, (hd.set k1).congr fun q => ?_⟩ (by dsimp only; omega) (by simp [h4, k2, k3, hdl, List.map_set])
            rw [take_succ ms j h4, List.any_append, List.any_cons, List.any_nil, Bool.or_false, k2, Bool.or_assoc]
          · simp at h4
            have hjl : j = ms.length := by omega
            subst hjl
            try simp 
            apply he'
            try simp 
            repeat' (first
              | ((with_reducible refine PreK.intro ?_ ?_); (next => (first | omega | (intros; first | omega | (refine ⟨by omega, ?_⟩; repeat (first | assumption | constructor)) | assumption))); intro _; try simp )
              | fail)
            refine hq (i + 1, d) _ ⟨by dsimp only; omega, hd.congr fun k => ?_⟩ (by dsimp only; omega) (by simp [hdl])
            rw [List.take_length, take_succ g.ws i h3, List.any_append, List.any_cons, List.any_nil, Bool.or_false, hhr]
        · simp at h3
          have hil : i = g.ws.length := by omega
          subst hil
          have hall := outU_all (hc.congr fun k => by rw [List.take_length])
          rw [hR0] at hall
          try simp 
          apply he
          have htk : (c.map bv).take s.length = c.map bv := List.take_of_length_le (by simp [hcl])
          try simp 
          refine LoopK.by (ι := Nat × List Int) (fun x => ⟨[(54, iv x.1), (53, iv s.length), (52, .sl 27 1 0 s.length), (13, .sl 13 (x.2.length + 1) 0 x.2.length)], [(27, some ⟨1, c.map bv, 1, false⟩), (13, some ⟨1, x.2.map iv, x.2.length + 1, false⟩)]⟩) (fun x => s.length - x.1)
            (fun x => x.1 ≤ s.length ∧ x.2.length ≤ x.1 ∧ x.2 ++ outU c x.1 (c.drop x.1) = R) (0, []) ⟨by simp, by simp, by simpa using hall⟩ (by simp) ?_
          intro ⟨i, acc⟩ Q'' ⟨hi, hal, hcc⟩ hq' he' hr'
          dsimp only at hi hal hcc
          try simp 
          refine CondK.intro (fun h5 => ?_) (fun h5 => ?_)
          · simp at h5
            have h5c : i < c.length := by omega
            rw [drop_cons c i h5c, outU] at hcc
            have hnb := nth_map bv c i h5c
            repeat (refine PreK.intro (by first | omega | (intros; first | omega | (refine ⟨by omega, ?_⟩; simp_all; done) | (simp_all; done) | (simp_all; omega))) fun _ => ?_; (try simp [h5, h5c, hcl, hnb]))
            refine CondK.intro (fun h6 => ?_) (fun h6 => ?_)
            · simp [h5, h5c, hcl, hnb] at h6
              rw [h6] at hcc
              simp only [Bool.false_eq_true, if_false] at hcc
              repeat (refine PreK.intro (by first | omega | (intros; first | omega | (refine ⟨by omega, ?_⟩; simp_all; done) | (simp_all; done) | (simp_all; omega))) fun _ => ?_; (try simp ))
              exact hq' (i + 1, acc ++ [(i : Int)]) _ ⟨by dsimp only; omega, by simp; omega, by simpa using hcc⟩ (by dsimp only; omega) (by simp)
            · simp [h5, h5c, hcl, hnb] at h6
              rw [h6] at hcc
              simp only [if_true] at hcc
              repeat (refine PreK.intro (by first | omega | (intros; first | omega | (refine ⟨by omega, ?_⟩; simp_all; done) | (simp_all; done) | (simp_all; omega))) fun _ => ?_; (try simp ))
              exact hq' (i + 1, acc) _ ⟨by dsimp only; omega, by dsimp only; omega, hcc⟩ (by dsimp only; omega) (by simp)
          · simp at h5
            rw [List.drop_eq_nil_of_le (by omega), outU] at hcc
            simp only [List.append_nil] at hcc
            subst hcc
            try simp 
            apply he'
            try simp 
            repeat' (first
              | ((with_reducible refine PreK.intro ?_ ?_); (next => (first | omega | (intros; first | omega | (refine ⟨by omega, ?_⟩; repeat (first | assumption | constructor)) | assumption))); intro _; try simp )
              | fail)
  · have e1 : reachedV s w = .tup [.raw (.pointer none), iv (swErr s w)] := by simp [reachedV, h1]
    rw [e1] at hrc
    have e2 : UnusedR s w = ([], swErr s w) := by simp [UnusedR, h1]
    rw [e2]
    simp [A95]
    try simp 
    repeat' (first
      | (refine CallX.pure (hrc) (by simp) (by simp) ?_; try simp )
      | (refine CallK.intro (hrc) (by simp) (by simp) ?_; try simp )
      | (refine CallG.intro (fun _ => hrc) (by simp) (by simp) ?_; try simp )
      | ((with_reducible refine PreK.intro ?_ ?_); (next => (first | omega | (intros; first | omega | (refine ⟨by omega, ?_⟩; repeat (first | assumption | constructor)) | assumption))); intro _; try simp )
      | fail)
    refine CondK.intro (fun h2 => ?_) (fun h2 => ?_)
    · try simp 
      repeat' (first
        | ((with_reducible refine PreK.intro ?_ ?_); (next => (first | omega | (intros; first | omega | (refine ⟨by omega, ?_⟩; repeat (first | assumption | constructor)) | assumption))); intro _; try simp )
        | fail)
    · simp at h2
      exact absurd h2 h1
end Go.Proofs.Ytaooenmkofjafaa
end

section
/- Contracts: the reference's unused rules; the statement FeedUnused. -/
namespace Go.Proofs.Ytaooenmkofjafaa
open Go.Abs Go
set_option maxRecDepth 20000
set_option maxHeartbeats 2000000
attribute [local irreducible] PreK CondK CallK CallG CallX LoopK
attribute [local simp] avsEq avEq akind teq vkind vEq

def UnusedRef (s : List Rule) (w : Word) : List Int × Int := if swErr s w ≠ 0 then ([], swErr s w) else match rreachG s w with
  | none => ([], 3)
  | some g => (unusedM s g.ws, 0)
theorem rUnused_err (s : List Rule) (w : List Int) (e : Int) (he : e ≠ 0) (hg : CallP Try.prog 159 [rulesV s, ints w] (.tup [rzeroV, iv e])) : CallP Try.prog 104 [rulesV s, ints w] (.tup [ints [], iv e]) := by
  refine C104 (by simp) ?_
  simp only [rzeroV] at hg
  simp [A104]
  try simp 
  repeat' (first
    | (refine CallX.pure (hg) (by simp) (by simp) ?_; try simp )
    | (refine CallK.intro (hg) (by simp) (by simp) ?_; try simp )
    | (refine CallG.intro (fun _ => hg) (by simp) (by simp) ?_; try simp )
    | ((with_reducible refine PreK.intro ?_ ?_); (next => (first | omega | (intros; first | omega | (refine ⟨by omega, ?_⟩; repeat (first | assumption | constructor)) | assumption))); intro _; try simp )
    | fail)
  refine CondK.intro (fun h1 => ?_) (fun h1 => ?_)
  · try simp 
    repeat' (first
      | ((with_reducible refine PreK.intro ?_ ?_); (next => (first | omega | (intros; first | omega | (refine ⟨by omega, ?_⟩; repeat (first | assumption | constructor)) | assumption))); intro _; try simp )
      | fail)
  · simp at h1
    exact absurd h1 he
theorem rUnused_some (s : List Rule) (w : List Int) (h : Sys.small s) (hs0 : sysErr s = 0) (g : RG) (hok : g.ok) (hg : CallP Try.prog 159 [rulesV s, ints w] (.tup [rgraphV g, iv 0])) : CallP Try.prog 104 [rulesV s, ints w] (.tup [ints (unusedM s g.ws), iv 0]) := by
  refine C104 (by simp) ?_
  have hnum := hok.num
  obtain ⟨hs6, _⟩ := sysErr_zero hs0
  generalize hR0 : unusedM s g.ws = R
  simp only [rgraphV] at hg
  simp [A104]
  try simp 
  repeat' (first
    | (refine CallX.pure (hg) (by simp) (by simp) ?_; try simp )
    | (refine CallK.intro (hg) (by simp) (by simp) ?_; try simp )
    | (refine CallG.intro (fun _ => hg) (by simp) (by simp) ?_; try simp )
    | ((with_reducible refine PreK.intro ?_ ?_); (next => (first | omega | (intros; first | omega | (refine ⟨by omega, ?_⟩; repeat (first | assumption | constructor)) | assumption))); intro _; try simp )
    | fail)
  refine CondK.intro (fun h1 => ?_) (fun h1 => ?_)
  · simp at h1
  · try simp 
    repeat (refine PreK.intro (by first | omega | (intros; first | omega | (refine ⟨by omega, ?_⟩; simp_all; done) | (simp_all; done) | (simp_all; omega))) fun _ => ?_; (try simp ))
    refine LoopK.by (ι := Nat × List Bool) (fun x => ⟨[(9, iv x.1), (8, .sl 26 1 0 s.length), (6, .pt 6 1 0 0), (0, rulesV s)], [(6, some ⟨3, [rgraphV g], 1, true⟩), (26, some ⟨1, x.2.map bv, 1, false⟩)]⟩) (fun x => g.ws.length - x.1)
      (fun x => x.1 ≤ g.ws.length ∧ UsedC s (fun k => (g.ws.take x.1).any (hasRule s k)) x.2) (0, List.replicate s.length false) ⟨by simp, (UsedC.start s).congr fun k => by simp⟩ (by simp [rgraphV]) ?_
    intro ⟨i, c⟩ Q' ⟨hi, hc⟩ hq he hr
    dsimp only at hi hc
    have hcl := hc.len
    simp only [rgraphV]
    try simp 
    refine CondK.intro (fun h3 => ?_) (fun h3 => ?_)
    · simp at h3
      have hu := hok.fine _ (el_mem_of g.ws i h3)
      have hst := rsteps_c s (el g.ws i) h hs6 (wordErr_zero hu).1
      have hrl := fun m hm => @moves_rule s (el g.ws i) m hm
      have hml := movesM_len hs0 hu
      have hhr : ∀ k, hasRule s k (el g.ws i) = ((movesM s (el g.ws i)).map (·.step)).any fun x => decide (x.rule = (k : Int)) := fun k => by unfold hasRule; rw [List.any_map]; rfl
      have hrl2 : ∀ x ∈ (movesM s (el g.ws i)).map (·.step), ∃ k : Nat, k < s.length ∧ x.rule = (k : Int) := by
        intro x hx
        obtain ⟨m, hm, rfl⟩ := List.mem_map.1 hx
        exact hrl m hm
      have hml2 : ((movesM s (el g.ws i)).map (·.step)).length ≤ 54 := by simpa using hml
      generalize (movesM s (el g.ws i)).map (·.word) = ws at hst
      generalize (movesM s (el g.ws i)).map (·.step) = ms at hst hhr hrl2 hml2
      try simp [h3]
      repeat' (first
        | (refine CallX.pure (hst) (by simp) (by simp) ?_; try simp [h3])
        | (refine CallK.intro (hst) (by simp) (by simp) ?_; try simp [h3])
        | (refine CallG.intro (fun _ => hst) (by simp) (by simp) ?_; try simp [h3])
        | ((with_reducible refine PreK.intro ?_ ?_); (next => (first | omega | (intros; first | omega | (refine ⟨by omega, ?_⟩; repeat (first | assumption | constructor)) | assumption))); intro _; try simp [h3])
        | fail)
      refine LoopK.by (ι := Nat × List Bool) (fun x => ⟨[(12, iv x.1), (10, stepsV ms), (9, iv i), (8, .sl 26 1 0 s.length), (6, .pt 6 1 0 0), (0, rulesV s)], [(6, some ⟨3, [rgraphV g], 1, true⟩), (26, some ⟨1, x.2.map bv, 1, false⟩)]⟩) (fun x => ms.length - x.1)
        (fun x => x.1 ≤ ms.length ∧ UsedC s (fun k => (g.ws.take i).any (hasRule s k) || (ms.take x.1).any fun x => decide (x.rule = (k : Int))) x.2) (0, c) ⟨by simp, hc.congr fun k => by simp⟩ (by simp [rgraphV]) ?_
      intro ⟨j, d⟩ Q'' ⟨hj, hd⟩ hq' he' hr'
      dsimp only at hj hd
      have hdl := hd.len
      simp only [rgraphV]
      try simp 
      refine CondK.intro (fun h4 => ?_) (fun h4 => ?_)
      · simp at h4
        obtain ⟨k, k1, k2⟩ := hrl2 _ (el_mem_of ms j h4)
        have k3 : k < d.length := by omega
        have hnb := nth_map bv d k k3
        try simp [h4, k2, k1, k3, hdl, hnb]
        repeat (refine PreK.intro (by first | omega | (intros; first | omega | (refine ⟨by omega, ?_⟩; simp_all; done) | (simp_all; done) | (simp_all; omega))) fun _ => ?_; (try simp [h4, k2, k1, k3, hdl, hnb]))
        try simp [h4, k2, k1, k3, hdl, hnb]
        repeat (refine PreK.intro (by first | omega | (intros; first | omega | (refine ⟨by omega, ?_⟩; simp_all; done) | (simp_all; done) | (simp_all; omega))) fun _ => ?_; (try simp [h4, k2, k1, k3, hdl, hnb]))
        refine hq' (j + 1, d.set k true) _ ⟨by dsimp only; omega, (hd.set k1).congr fun q => ?_⟩ (by dsimp only; omega) (by simp [rgraphV, h4, k2, k3, hdl, List.map_set])
        rw [take_succ ms j h4, List.any_append, List.any_cons, List.any_nil, Bool.or_false, k2, Bool.or_assoc]
      · simp at h4
        have hjl : j = ms.length := by omega
        subst hjl
        try simp 
        apply he'
        try simp 
        repeat' (first
          | ((with_reducible refine PreK.intro ?_ ?_); (next => (first | omega | (intros; first | omega | (refine ⟨by omega, ?_⟩; repeat (first | assumption | constructor)) | assumption))); intro _; try simp )
          | fail)
        refine hq (i + 1, d) _ ⟨by dsimp only; omega, hd.congr fun k => ?_⟩ (by dsimp only; omega) (by simp [rgraphV])
        rw [List.take_length, take_succ g.ws i h3, List.any_append, List.any_cons, List.any_nil, Bool.or_false, hhr]
    · simp at h3
      have hil : i = g.ws.length := by omega
      subst hil
      have hall := outU_all (hc.congr fun k => by rw [List.take_length])
      rw [hR0] at hall
      try simp 
      apply he
      try simp 
      refine LoopK.by (ι := Nat × List Int) (fun x => ⟨[(14, iv x.1), (13, .sl 13 (x.2.length + 1) 0 x.2.length), (8, .sl 26 1 0 s.length), (0, rulesV s)], [(26, some ⟨1, c.map bv, 1, false⟩), (13, some ⟨1, x.2.map iv, x.2.length + 1, false⟩)]⟩) (fun x => s.length - x.1)
        (fun x => x.1 ≤ s.length ∧ x.2.length ≤ x.1 ∧ x.2 ++ outU c x.1 (c.drop x.1) = R) (0, []) ⟨by simp, by simp, by simpa using hall⟩ (by simp) ?_
      intro ⟨i, acc⟩ Q'' ⟨hi, hal, hcc⟩ hq' he' hr'
      dsimp only at hi hal hcc
      try simp 
      refine CondK.intro (fun h5 => ?_) (fun h5 => ?_)
      · simp at h5
        have h5c : i < c.length := by omega
        rw [drop_cons c i h5c, outU] at hcc
        have hnb := nth_map bv c i h5c
        try simp [h5, h5c, hcl, hnb]
        repeat (refine PreK.intro (by first | omega | (intros; first | omega | (refine ⟨by omega, ?_⟩; simp_all; done) | (simp_all; done) | (simp_all; omega))) fun _ => ?_; (try simp [h5, h5c, hcl, hnb]))
        refine CondK.intro (fun h6 => ?_) (fun h6 => ?_)
        · simp [h5, h5c, hcl, hnb] at h6
          rw [h6] at hcc
          simp only [Bool.false_eq_true, if_false] at hcc
          try simp 
          repeat (refine PreK.intro (by first | omega | (intros; first | omega | (refine ⟨by omega, ?_⟩; simp_all; done) | (simp_all; done) | (simp_all; omega))) fun _ => ?_; (try simp ))
          exact hq' (i + 1, acc ++ [(i : Int)]) _ ⟨by dsimp only; omega, by simp; omega, by simpa using hcc⟩ (by dsimp only; omega) (by simp)
        · simp [h5, h5c, hcl, hnb] at h6
          rw [h6] at hcc
          simp only [if_true] at hcc
          try simp 
          repeat (refine PreK.intro (by first | omega | (intros; first | omega | (refine ⟨by omega, ?_⟩; simp_all; done) | (simp_all; done) | (simp_all; omega))) fun _ => ?_; (try simp ))
          exact hq' (i + 1, acc) _ ⟨by dsimp only; omega, by dsimp only; omega, hcc⟩ (by dsimp only; omega) (by simp)
      · simp at h5
        rw [List.drop_eq_nil_of_le (by omega), outU] at hcc
        simp only [List.append_nil] at hcc
        subst hcc
        try simp 
        apply he'
        try simp 
        repeat' (first
          | ((with_reducible refine PreK.intro ?_ ?_); (next => (first | omega | (intros; first | omega | (refine ⟨by omega, ?_⟩; repeat (first | assumption | constructor)) | assumption))); intro _; try simp )
          | fail)
theorem rUnused_c (s : List Rule) (w : List Int) (h : Sys.small s) (hw : w.length ≤ 1000) : CallP Try.prog 104 [rulesV s, ints w] (.tup [ints (UnusedRef s w).1, iv (UnusedRef s w).2]) := by
  have hgc := graphed_c s w h hw
  unfold rgraphedV at hgc
  unfold UnusedRef
  by_cases h0 : swErr s w = 0
  · simp only [h0, ne_eq, not_true_eq_false, if_false] at hgc ⊢
    cases hg : rreachG s w with
    | none =>
      rw [hg] at hgc
      exact rUnused_err s w 3 (by decide) hgc
    | some g =>
      rw [hg] at hgc
      exact rUnused_some s w h (swErr_zero h0).1 g (rreachG_ok h0 hg) hgc
  · simp only [h0, ne_eq, not_false_eq_true, if_true] at hgc ⊢
    exact rUnused_err s w _ h0 hgc
theorem any_same {l m : List Word} (p : Word → Bool) (h : ∀ x, x ∈ l ↔ x ∈ m) : l.any p = m.any p := by
  rw [Bool.eq_iff_iff, List.any_eq_true, List.any_eq_true]
  exact ⟨fun ⟨x, hx, hp⟩ => ⟨x, (h x).1 hx, hp⟩, fun ⟨x, hx, hp⟩ => ⟨x, (h x).2 hx, hp⟩⟩
theorem Unused_same (s : List Rule) (w : Word) : UnusedR s w = UnusedRef s w := by
  unfold UnusedR UnusedRef
  have h := graphs_same s w
  cases hg : reachG s w with
  | none =>
    cases hr : rreachG s w with
    | none => rfl
    | some r => rw [hg, hr] at h; exact h.elim
  | some g =>
    cases hr : rreachG s w with
    | none => rw [hg, hr] at h; exact h.elim
    | some r =>
      rw [hg, hr] at h
      obtain ⟨ws, rs, h1, h2, _, _, h5⟩ := h
      dsimp only
      have hm : ∀ z, z ∈ g.ws ↔ z ∈ r.ws := fun z => by
        rw [h1.words, h2.words, List.mem_map, List.mem_map]
        exact ⟨fun ⟨y, hy, e⟩ => ⟨y, (h5 y).1 hy, e⟩, fun ⟨y, hy, e⟩ => ⟨y, (h5 y).2 hy, e⟩⟩
      have : unusedM s g.ws = unusedM s r.ws := by
        unfold unusedM
        simp only [any_same _ hm]
      rw [this]
theorem UnusedR_len {s : List Rule} {w : Word} : (UnusedR s w).1.length ≤ s.length := by
  unfold UnusedR
  split
  · simp
  · split
    · simp
    · dsimp only
      unfold unusedM
      rw [List.length_map]
      exact Nat.le_trans (List.length_filter_le _ _) (by simp)
theorem without_small {s : List Rule} {k : Int} (h : Sys.small s) : Sys.small (WithoutR s k).1 := by
  have : (WithoutR s k).1 = s.eraseIdx k.toNat ∨ (WithoutR s k).1 = [] := by
    unfold WithoutR
    split
    · exact .inr rfl
    · split
      · exact .inr rfl
      · exact .inl rfl
  rcases this with e | e
  · rw [e]
    refine ⟨?_, fun r hr => h.2 r (List.mem_of_mem_eraseIdx hr)⟩
    have := List.length_eraseIdx_le s k.toNat
    have := h.1
    omega
  · rw [e]
    exact ⟨by simp, fun r hr => by cases hr⟩
theorem firstErr_all : ∀ {s : List Rule}, (∀ r ∈ s, ruleErr r = 0) → firstErr s = 0
  | [], _ => rfl
  | r :: s, h => by
    rw [firstErr, if_neg (by simp [h r (by simp)])]
    exact firstErr_all fun x hx => h x (by simp [hx])
theorem sysErr_less {s : List Rule} {k : Nat} (h : sysErr s = 0) : sysErr (s.eraseIdx k) = 0 := by
  obtain ⟨h1, h2⟩ := sysErr_zero h
  unfold sysErr
  have := List.length_eraseIdx_le s k
  rw [if_neg (by omega)]
  exact firstErr_all fun r hr => h2 r (List.mem_of_mem_eraseIdx hr)
theorem unused_law {s : List Rule} {w : Word} {k : Int} (h : (UnusedR s w).2 = 0) (hk : (UnusedR s w).1.contains k = true) :
    (WithoutR s k).2 = 0 ∧ (ReachE s w).2 = 0 ∧ ReachE (WithoutR s k).1 w = ReachE s w := by
  unfold UnusedR at h hk
  by_cases h0 : swErr s w = 0
  · simp only [h0, ne_eq, not_true_eq_false, if_false] at h hk
    cases hg : reachG s w with
    | none => rw [hg] at h; cases h
    | some g =>
      rw [hg] at hk
      dsimp only at hk
      obtain ⟨hs0, hw0⟩ := swErr_zero h0
      have hm : k ∈ unusedM s g.ws := by simpa using hk
      unfold unusedM at hm
      obtain ⟨n, hn, rfl⟩ := List.mem_map.1 hm
      rw [List.mem_filter, List.mem_range] at hn
      obtain ⟨n1, n2⟩ := hn
      have hu : ∀ u ∈ g.ws, hasRule s n u = false := by
        intro u hu
        have : g.ws.any (hasRule s n) = false := by simpa using n2
        rw [List.any_eq_false] at this
        simpa using this u hu
      obtain ⟨g', k1, k2⟩ := unused_same n1 hg hu
      have hW : WithoutR s (n : Int) = (s.eraseIdx n, 0) := by
        unfold WithoutR
        rw [if_neg (by simp [hs0]), if_neg]
        · rfl
        · simp only [Bool.and_eq_false_iff, decide_eq_false_iff_not]; omega
      have h0' : swErr (s.eraseIdx n) w = 0 := by unfold swErr; rw [if_neg (by simp [sysErr_less hs0])]; exact hw0
      rw [hW]
      dsimp only
      unfold ReachE
      simp only [h0, h0', ne_eq, not_true_eq_false, if_false, hg, k1]
      refine ⟨trivial, trivial, ?_⟩
      rw [uniq_insA (l := g'.ws) (m := g.ws) k2, ← uniq_insA (l := g.ws) (m := g.ws) fun z => Iff.rfl]
  · simp only [h0, ne_eq, not_false_eq_true, if_true] at h
theorem lawFeedUnused_c (s : List Rule) (w : List Int) (k : Int) (hb : s.length ≤ big) (hwb : w.length ≤ big) : CallP Try.prog 24 [rulesV s, ints w, iv k] (bv true) := by
  refine C24 (by simp) ?_
  simp [A24]
  refine CallX.pure (by simpa using long3_c s hb) (by simp) (by simp) ?_
  try simp 
  cases hl : longS s
  · have hs := longS_small hl
    by_cases h2 : 100 < w.length
    · try simp 
      repeat' (first
        | (refine CallX.pure (large3_c w) (by simp) (by simp) ?_; try simp )
        | (refine CallK.intro (large3_c w) (by simp) (by simp) ?_; try simp )
        | (refine CallG.intro (fun _ => large3_c w) (by simp) (by simp) ?_; try simp )
        | ((with_reducible refine PreK.intro ?_ ?_); (next => (first | omega | (intros; first | omega | (refine ⟨by omega, ?_⟩; repeat (first | assumption | constructor)) | assumption))); intro _; try simp )
        | fail)
      refine CondK.intro (fun h3 => ?_) (fun h3 => ?_)
      · try simp 
        repeat' (first
          | (refine CallX.pure (known_c) (by simp) (by simp) ?_; try simp )
          | (refine CallK.intro (known_c) (by simp) (by simp) ?_; try simp )
          | (refine CallG.intro (fun _ => known_c) (by simp) (by simp) ?_; try simp )
          | ((with_reducible refine PreK.intro ?_ ?_); (next => (first | omega | (intros; first | omega | (refine ⟨by omega, ?_⟩; repeat (first | assumption | constructor)) | assumption))); intro _; try simp )
          | fail)
      · simp at h3; omega
    · try simp 
      repeat' (first
        | (refine CallX.pure (large3_c w) (by simp) (by simp) ?_; try simp )
        | (refine CallK.intro (large3_c w) (by simp) (by simp) ?_; try simp )
        | (refine CallG.intro (fun _ => large3_c w) (by simp) (by simp) ?_; try simp )
        | ((with_reducible refine PreK.intro ?_ ?_); (next => (first | omega | (intros; first | omega | (refine ⟨by omega, ?_⟩; repeat (first | assumption | constructor)) | assumption))); intro _; try simp )
        | fail)
      refine CondK.intro (fun h3 => ?_) (fun h3 => ?_)
      · simp at h3; omega
      · have hw : w.length ≤ 1000 := by omega
        have h4 := Unused_c s w hs hw
        have h5 := rUnused_c s w hs hw
        rw [← Unused_same] at h5
        have hul : (UnusedR s w).1.length ≤ 1000 := Nat.le_trans UnusedR_len hs.1
        have h6 := same1_c (UnusedR s w).1 (UnusedR s w).1 (big_of hul)
        have h7 := has1_c (UnusedR s w).1 k (big_of hul)
        have hlaw := @unused_law s w k
        have hW := Without_c s k hs
        have hR1 := Reach_c s w hs hw
        have hR2 := Reach_c (WithoutR s k).1 w (without_small hs) hw
        obtain ⟨n1, n2⟩ := ReachE_small (s := s) (w := w)
        have h8 := sameLists_c (ReachE s w).1 (ReachE s w).1 (big_of n1) (fun x hx => big_of (n2 x hx))
        generalize UnusedR s w = E at h4 h5 h6 h7 hlaw
        obtain ⟨E1, E2⟩ := E
        dsimp only at h4 h5 h6 h7 hlaw
        try simp 
        repeat' (first
          | (refine CallX.pure (h4) (by simp) (by simp) ?_; try simp )
          | (refine CallK.intro (h4) (by simp) (by simp) ?_; try simp )
          | (refine CallG.intro (fun _ => h4) (by simp) (by simp) ?_; try simp )
          | (refine CallX.pure (h5) (by simp) (by simp) ?_; try simp )
          | (refine CallK.intro (h5) (by simp) (by simp) ?_; try simp )
          | (refine CallG.intro (fun _ => h5) (by simp) (by simp) ?_; try simp )
          | (refine CallX.pure (h6) (by simp) (by simp) ?_; try simp )
          | (refine CallK.intro (h6) (by simp) (by simp) ?_; try simp )
          | (refine CallG.intro (fun _ => h6) (by simp) (by simp) ?_; try simp )
          | ((with_reducible refine PreK.intro ?_ ?_); (next => (first | omega | (intros; first | omega | (refine ⟨by omega, ?_⟩; repeat (first | assumption | constructor)) | assumption))); intro _; try simp )
          | fail)
        refine CondK.intro (fun h9 => ?_) (fun h9 => ?_)
        · simp at h9
        · by_cases h0 : E2 = 0
          · subst h0
            try simp 
            repeat' (first
              | (refine CallX.pure (h7) (by simp) (by simp) ?_; try simp )
              | (refine CallK.intro (h7) (by simp) (by simp) ?_; try simp )
              | (refine CallG.intro (fun _ => h7) (by simp) (by simp) ?_; try simp )
              | ((with_reducible refine PreK.intro ?_ ?_); (next => (first | omega | (intros; first | omega | (refine ⟨by omega, ?_⟩; repeat (first | assumption | constructor)) | assumption))); intro _; try simp )
              | fail)
            cases hk : E1.contains k
            · try simp 
              refine CondK.intro (fun h10 => ?_) (fun h10 => ?_)
              · try simp 
                repeat' (first
                  | (refine CallX.pure (known_c) (by simp) (by simp) ?_; try simp )
                  | (refine CallK.intro (known_c) (by simp) (by simp) ?_; try simp )
                  | (refine CallG.intro (fun _ => known_c) (by simp) (by simp) ?_; try simp )
                  | ((with_reducible refine PreK.intro ?_ ?_); (next => (first | omega | (intros; first | omega | (refine ⟨by omega, ?_⟩; repeat (first | assumption | constructor)) | assumption))); intro _; try simp )
                  | fail)
              · simp at h10
                exact absurd h10 (by simpa using hk)
            · obtain ⟨l1, l2, l3⟩ := hlaw rfl hk
              rw [l3] at hR2
              generalize WithoutR s k = WR at hW hR2 l1
              obtain ⟨W1, W2⟩ := WR
              generalize ReachE s w = RE at hR1 hR2 h8 l2
              obtain ⟨R1, R2⟩ := RE
              dsimp only at hW hR1 hR2 h8 l1 l2
              subst l1; subst l2
              try simp 
              refine CondK.intro (fun h10 => ?_) (fun h10 => ?_)
              · simp at h10
                exact absurd h10 (by simpa using hk)
              · try simp 
                repeat' (first
                  | (refine CallX.pure (hW) (by simp) (by simp) ?_; try simp )
                  | (refine CallK.intro (hW) (by simp) (by simp) ?_; try simp )
                  | (refine CallG.intro (fun _ => hW) (by simp) (by simp) ?_; try simp )
                  | (refine CallX.pure (hR1) (by simp) (by simp) ?_; try simp )
                  | (refine CallK.intro (hR1) (by simp) (by simp) ?_; try simp )
                  | (refine CallG.intro (fun _ => hR1) (by simp) (by simp) ?_; try simp )
                  | (refine CallX.pure (hR2) (by simp) (by simp) ?_; try simp )
                  | (refine CallK.intro (hR2) (by simp) (by simp) ?_; try simp )
                  | (refine CallG.intro (fun _ => hR2) (by simp) (by simp) ?_; try simp )
                  | (refine CallX.pure (h8) (by simp) (by simp) ?_; try simp )
                  | (refine CallK.intro (h8) (by simp) (by simp) ?_; try simp )
                  | (refine CallG.intro (fun _ => h8) (by simp) (by simp) ?_; try simp )
                  | (refine CallX.pure (known_c) (by simp) (by simp) ?_; try simp )
                  | (refine CallK.intro (known_c) (by simp) (by simp) ?_; try simp )
                  | (refine CallG.intro (fun _ => known_c) (by simp) (by simp) ?_; try simp )
                  | ((with_reducible refine PreK.intro ?_ ?_); (next => (first | omega | (intros; first | omega | (refine ⟨by omega, ?_⟩; repeat (first | assumption | constructor)) | assumption))); intro _; try simp )
                  | fail)
          · try simp 
            refine CallG.intro (r := bv true) (fun hh => by simp [h0] at hh) (by simp [h0]) (by simp) ?_
            try simp 
            refine CondK.intro (fun h10 => ?_) (fun h10 => ?_)
            · try simp 
              repeat' (first
                | (refine CallX.pure (known_c) (by simp) (by simp) ?_; try simp )
                | (refine CallK.intro (known_c) (by simp) (by simp) ?_; try simp )
                | (refine CallG.intro (fun _ => known_c) (by simp) (by simp) ?_; try simp )
                | ((with_reducible refine PreK.intro ?_ ?_); (next => (first | omega | (intros; first | omega | (refine ⟨by omega, ?_⟩; repeat (first | assumption | constructor)) | assumption))); intro _; try simp )
                | fail)
            · simp [h0] at h10
  · try simp 
    repeat' (first
      | ((with_reducible refine PreK.intro ?_ ?_); (next => (first | omega | (intros; first | omega | (refine ⟨by omega, ?_⟩; repeat (first | assumption | constructor)) | assumption))); intro _; try simp )
      | fail)
    refine CallG.intro (r := bv true) (fun hh => by cases hh) (by simp) (by simp) ?_
    try simp 
    refine CondK.intro (fun h3 => ?_) (fun h3 => ?_)
    · try simp 
      repeat' (first
        | (refine CallX.pure (known_c) (by simp) (by simp) ?_; try simp )
        | (refine CallK.intro (known_c) (by simp) (by simp) ?_; try simp )
        | (refine CallG.intro (fun _ => known_c) (by simp) (by simp) ?_; try simp )
        | ((with_reducible refine PreK.intro ?_ ?_); (next => (first | omega | (intros; first | omega | (refine ⟨by omega, ?_⟩; repeat (first | assumption | constructor)) | assumption))); intro _; try simp )
        | fail)
    · simp at h3
end Go.Proofs.Ytaooenmkofjafaa
end
