/- Part 5 of the proof: the value layer and the contracts of the functions that the statement reaches; proved without conditions beyond those each theorem states. -/
import Derived.Test.YtnpkaemlidifgaaProg
import Derived.Test.YtnpkaemlidifgaaV4
set_option linter.unusedSimpArgs false
set_option linter.unusedVariables false

section
/- Plain: tables of three costs a node, step by step. -/
namespace Go.Proofs.Ytnpkaemlidifgaa
open Go.Abs Go

def row3 (b : Cost) (j : Nat) : AV := .agg [iv (b j 0), iv (b j 1), iv (b j 2)]
def rowsB (b : Cost) (n : Nat) : List AV := (List.range n).map (row3 b)
theorem rowsB_len (b : Cost) (n : Nat) : (rowsB b n).length = n := by simp [rowsB]
theorem nth_rows {b : Cost} {n j : Nat} (h : j < n) : nth (rowsB b n) j = .agg [.raw (.int .i64 (b j 0)), .raw (.int .i64 (b j 1)), .raw (.int .i64 (b j 2))] := by
  simp [rowsB, nth, List.getD_eq_getElem?_getD, h, row3]
theorem rowsB_congr {b c : Cost} {n : Nat} (h : ∀ j, j < n → b j 0 = c j 0 ∧ b j 1 = c j 1 ∧ b j 2 = c j 2) : rowsB b n = rowsB c n := by
  unfold rowsB
  refine List.map_congr_left fun j hj => ?_
  obtain ⟨h0, h1, h2⟩ := h j (List.mem_range.1 hj)
  simp only [row3, h0, h1, h2]
theorem rowsB_set {b c : Cost} {n i : Nat} (x y z : Int) (h : ∀ j, j < n → j ≠ i → b j 0 = c j 0 ∧ b j 1 = c j 1 ∧ b j 2 = c j 2) (hi : c i 0 = x ∧ c i 1 = y ∧ c i 2 = z) :
    (rowsB b n).set i (.agg [.raw (.int .i64 x), .raw (.int .i64 y), .raw (.int .i64 z)]) = rowsB c n := by
  apply List.ext_getElem?
  intro j
  rw [List.getElem?_set]
  by_cases e : i = j
  · subst e
    rw [if_pos rfl]
    by_cases hj : i < n
    · rw [if_pos (by rw [rowsB_len]; exact hj)]
      simp [rowsB, hj, row3, hi.1, hi.2.1, hi.2.2]
    · rw [if_neg (by rw [rowsB_len]; exact hj)]
      simp [rowsB, hj]
  · rw [if_neg e]
    by_cases hj : j < n
    · obtain ⟨h0, h1, h2⟩ := h j hj (fun e2 => e e2.symm)
      simp [rowsB, hj, row3, h0, h1, h2]
    · simp [rowsB, hj]
theorem rowsB_zero (n : Nat) : rowsB zeroC n = List.replicate n (.agg [.raw (.int .i64 0), .raw (.int .i64 0), .raw (.int .i64 0)]) := by
  apply List.ext_getElem?
  intro j
  by_cases hj : j < n
  · simp [rowsB, hj, row3, zeroC]
  · simp [rowsB, hj]
/-- The first q readings of a node that are forbidden cost M. -/
def forbN (M : Int) (al : Nat → Int → Bool) (i : Nat) (b : Cost) (q : Int) : Cost := fun j r => if j = i ∧ r < q ∧ al i r = false then M else b j r
theorem forbN_zero (M : Int) (al : Nat → Int → Bool) (i : Nat) (b : Cost) (n : Nat) : rowsB (forbN M al i b 0) n = rowsB b n := by
  refine rowsB_congr fun j _ => ?_
  simp [forbN]
theorem forbN_all (M : Int) (al : Nat → Int → Bool) (i : Nat) (b : Cost) (n : Nat) : rowsB (forbN M al i b 3) n = rowsB (forb M al i b) n := by
  refine rowsB_congr fun j _ => ?_
  simp [forbN, forb]
/-- The first q readings of the parent are added to. -/
def addN (M : Int) (i p : Nat) (b : Cost) (q : Int) : Cost := fun j r => if j = p ∧ r < q then b j r + leastF M (b i) r else b j r
theorem addN_zero (M : Int) (i p : Nat) (b : Cost) (n : Nat) : rowsB (addN M i p b 0) n = rowsB b n := by
  refine rowsB_congr fun j _ => ?_
  simp [addN]
theorem addN_all (M : Int) (al : Nat → Int → Bool) (p : Nat → Nat) (i : Nat) (h : i ≠ 0) (b : Cost) (n : Nat) : rowsB (addN M i (p i) (forb M al i b) 3) n = rowsB (dpStep M al p i b) n := by
  refine rowsB_congr fun j _ => ?_
  simp [addN, dpStep, h]
theorem step_zero (M : Int) (al : Nat → Int → Bool) (p : Nat → Nat) (b : Cost) : dpStep M al p 0 b = forb M al 0 b := by
  funext j r
  simp [dpStep]
theorem step_bound {M B : Int} (hM : 0 ≤ M) (hB : M ≤ B) {al : Nat → Int → Bool} {p : Nat → Nat} {i : Nat} {b : Cost} (h : ∀ j r, 0 ≤ b j r ∧ b j r ≤ B) : ∀ j r, 0 ≤ dpStep M al p i b j r ∧ dpStep M al p i b j r ≤ B + M := by
  have hf : ∀ j r, 0 ≤ forb M al i b j r ∧ forb M al i b j r ≤ B := by
    intro j r
    unfold forb
    split
    · exact ⟨hM, hB⟩
    · exact h j r
  intro j r
  have h1 := hf j r
  have h2 : leastF M (forb M al i b i) r ≤ M := leastF_top
  have h3 : 0 ≤ leastF M (forb M al i b i) r := leastF_nn hM fun q => (hf i q).1
  unfold dpStep
  split <;> omega
theorem forb_bound {M B : Int} (hM : 0 ≤ M) (hB : M ≤ B) {al : Nat → Int → Bool} {i : Nat} {b : Cost} (h : ∀ j r, 0 ≤ b j r ∧ b j r ≤ B) : ∀ j r, 0 ≤ forb M al i b j r ∧ forb M al i b j r ≤ B := by
  intro j r
  unfold forb
  split
  · exact ⟨hM, hB⟩
  · exact h j r
theorem forbN_skip {M : Int} {al : Nat → Int → Bool} {i : Nat} {b : Cost} {q : Int} (h : al i q = true) : forbN M al i b (q + 1) = forbN M al i b q := by
  funext j r
  unfold forbN
  by_cases e : r = q
  · subst e; simp [h]
  · have : (r < q + 1) ↔ (r < q) := by omega
    simp only [this]
theorem forbN_hit {M : Int} {al : Nat → Int → Bool} {i : Nat} {b : Cost} {q : Int} (h : al i q = false) : forbN M al i b (q + 1) = fun j r => if j = i ∧ r = q then M else forbN M al i b q j r := by
  funext j r
  unfold forbN
  by_cases e : r = q
  · subst e
    by_cases e2 : j = i
    · subst e2; simp [h]; omega
    · simp [e2]
  · have : (r < q + 1) ↔ (r < q) := by omega
    simp only [this, e, and_false, if_false]
theorem addN_succ {M : Int} {i p : Nat} {b : Cost} {q : Int} : addN M i p b (q + 1) = fun j r => if j = p ∧ r = q then b p q + leastF M (b i) q else addN M i p b q j r := by
  funext j r
  unfold addN
  by_cases e : r = q
  · subst e
    by_cases e2 : j = p
    · subst e2; simp; omega
    · simp [e2]
  · have : (r < q + 1) ↔ (r < q) := by omega
    simp only [this, e, and_false, if_false]
def leastN (M : Int) (f : Int → Int) (r : Int) : Nat → Int
  | 0 => M
  | q + 1 => min (leastN M f r q) (f q + dd q r)
theorem leastN_all (M : Int) (f : Int → Int) (r : Int) : leastN M f r 3 = leastF M f r := by simp [leastN, leastF]
theorem leastN_bound {M : Int} {f : Int → Int} {r : Int} (hM : 0 ≤ M) (h : ∀ q, 0 ≤ f q) : ∀ k, 0 ≤ leastN M f r k ∧ leastN M f r k ≤ M
  | 0 => ⟨hM, Int.le_refl _⟩
  | k + 1 => by
    have ih := leastN_bound (r := r) hM h k
    have := h (k : Int)
    have := dd_nn (k : Int) r
    rw [leastN]
    omega
def rndN (g : Int → Int) (al : Int → Bool) : Nat → Int × Int
  | 0 => (-1, 0)
  | r + 1 => rnd g al (rndN g al r) r
theorem rndN_all (g : Int → Int) (al : Int → Bool) : (rndN g al 3).2 = pick g al := by simp [rndN, pick]
theorem rndN_bound {g : Int → Int} {al : Int → Bool} {B : Int} (hB : 0 ≤ B) (h : ∀ r, ok3 r → 0 ≤ g r ∧ g r ≤ B) : ∀ k, k ≤ 3 → -1 ≤ (rndN g al k).1 ∧ (rndN g al k).1 ≤ B
  | 0, _ => by simp [rndN]; omega
  | k + 1, hk => by
    have ih := rndN_bound (al := al) hB h k (by omega)
    have hg := h (k : Int) (by unfold ok3; omega)
    rw [rndN, rnd]
    split
    · exact ih
    · split
      · dsimp only; omega
      · exact ih
/-- The readings that are there, and zeros; the same with one more that is being looked for. -/
def outG (T : List Int) (n : Nat) : List Int := T ++ List.replicate n 0
def outF (T : List Int) (v : Int) (n : Nat) : List Int := T ++ v :: List.replicate n 0
theorem outG_succ (T : List Int) (n : Nat) : outG T (n + 1) = outF T 0 n := by simp [outG, outF, List.replicate_succ]
theorem outF_end (T : List Int) (v : Int) (n : Nat) : outF T v n = outG (T ++ [v]) n := by simp [outG, outF]
theorem outF_len (T : List Int) (v : Int) (n : Nat) : (outF T v n).length = T.length + 1 + n := by simp [outF]; omega
theorem outF_set (T : List Int) (v x : Int) (n : Nat) : ((outF T v n).map iv).set T.length (.raw (.int .i64 x)) = (outF T x n).map iv := by
  rw [show (AV.raw (.int .i64 x)) = iv x from rfl, ← List.map_set]
  unfold outF
  rw [List.set_append_right _ _ (Nat.le_refl _)]
  simp
theorem outF_el (T : List Int) (v : Int) (n j : Nat) (h : j < T.length) : el (outF T v n) j = el T j := el_app_lt _ _ _ h
end Go.Proofs.Ytnpkaemlidifgaa
end

section
/- PURSE -/
/- Contracts: readings of the nodes with the fewest changes. -/
namespace Go.Proofs.Ytnpkaemlidifgaa
open Go.Abs Go
set_option maxRecDepth 20000
set_option maxHeartbeats 8000000
attribute [local irreducible] PreK CondK CallK CallG CallX LoopK
attribute [local simp] avsEq avEq akind teq vkind vEq

theorem best_c (t : List (List Int)) (par ats : List Int) (p : Nat) (ht : Rds t) (hx : Treed par ats) (hl : ats.length = t.length) (hp : p < wid t) :
    CallP Try.prog 60 [rdsV t, treeV par ats, iv p] (match bestR par (prs t ats p) with | some o => .tup [ints o, bv true] | none => .tup [ints [], bv false]) := by
  refine C60 (by simp) ?_
  have hfx := fixed_c t par ats p ht hx hl hp
  have htop := hx.top
  have hpos := hx.pos
  have hok := treeOK_of ht hx hl hp
  generalize hR : (match bestR par (prs t ats p) with | some o => AV.tup [ints o, bv true] | none => .tup [ints [], bv false]) = R
  unfold bestR at hR
  cases hF : fixF (List.replicate par.length (-1)) (prs t ats p) with
  | none =>
    rw [hF] at hfx hR
    dsimp only [Option.map] at hfx hR
    simp [A60]
    try simp 
    repeat' (first
      | (refine CallX.pure (hfx) (by simp) (by simp) ?_; try simp )
      | (refine CallK.intro (hfx) (by simp) (by simp) ?_; try simp )
      | (refine CallG.intro (fun _ => hfx) (by simp) (by simp) ?_; try simp )
      | ((with_reducible refine PreK.intro ?_ ?_); (next => (first | omega | (intros; first | omega | (refine ⟨by omega, ?_⟩; repeat (first | assumption | constructor)) | assumption))); intro _; try simp )
      | fail)
    refine CondK.tt ?_
    try simp 
    subst hR
    refine ⟨[], ?_⟩
    simp [frzs]
    repeat (refine PreK.intro (by first | omega | (intros; first | omega | (refine ⟨by omega, ?_⟩; simp_all; done) | (simp_all; done) | (simp_all; omega))) fun _ => ?_; (try simp ))
  | some own =>
    rw [hF] at hfx hR
    dsimp only [Option.map] at hfx hR
    have hol : own.length = par.length := (fix_some hok.pairs (by simp) hF).1
    have hbw := Backward_c own
    have hit := backward_it own (by omega)
    have hrz := rowsB_zero own.length
    simp [A60]
    try simp 
    repeat' (first
      | (refine CallX.pure (hfx) (by simp) (by simp) ?_; try simp )
      | (refine CallK.intro (hfx) (by simp) (by simp) ?_; try simp )
      | (refine CallG.intro (fun _ => hfx) (by simp) (by simp) ?_; try simp )
      | ((with_reducible refine PreK.intro ?_ ?_); (next => (first | omega | (intros; first | omega | (refine ⟨by omega, ?_⟩; repeat (first | assumption | constructor)) | assumption))); intro _; try simp )
      | fail)
    refine CondK.ff ?_
    try simp 
    repeat (refine PreK.intro (by first | omega | (intros; first | omega | (refine ⟨by omega, ?_⟩; simp_all; done) | (simp_all; done) | (simp_all; omega))) fun _ => ?_; (try simp ))
    try simp 
    repeat' (first
      | (refine CallX.pure (hbw) (by simp) (by simp) ?_; try simp )
      | (refine CallK.intro (hbw) (by simp) (by simp) ?_; try simp )
      | (refine CallG.intro (fun _ => hbw) (by simp) (by simp) ?_; try simp )
      | ((with_reducible refine PreK.intro ?_ ?_); (next => (first | omega | (intros; first | omega | (refine ⟨by omega, ?_⟩; repeat (first | assumption | constructor)) | assumption))); intro _; try simp )
      | fail)
    rw [← hrz]
    refine RangeK.by ⟨[(36, .fn 103 [] [.ipt (ints own) 0]), (4, .pt 4 1 0 0), (8, .pt 8 1 0 0), (10, .pt 10 1 0 0)],
        [(4, some ⟨2, [treeV par ats], 1, true⟩), (8, some ⟨1, [ints own], 1, true⟩), (10, some ⟨1, [.sl 34 1 0 own.length], 1, true⟩), (34, some ⟨3, rowsB zeroC own.length, 1, false⟩)]⟩
      [(4, 1, 4), (8, 1, 8), (10, 1, 10), (34, 1, 34)] (ι := Cost) (fun b => [(4, some ⟨2, [treeV par ats], 0, true⟩), (8, some ⟨1, [ints own], 0, true⟩), (10, some ⟨1, [.sl 34 0 0 own.length], 0, true⟩), (34, some ⟨3, rowsB b own.length, 0, false⟩)])
      (fun k b => k < own.length ∧ dpRun 17 (alM own) (pf par) (own.length - k) b = costP par own ∧ ∀ j r, 0 ≤ b j r ∧ b j r ≤ 17 * ((k : Int) + 1)) zeroC
      hit (by simp) (by simp) (by simp [AV.refsL, AV.refs]) (by simp) ?_ (by simp) ⟨by omega, by rw [Nat.sub_zero, hol]; rfl, fun j r => by simp [zeroC]⟩ ?_ ?_ ?_
    · intro k hk
      rw [backL_len] at hk
      rw [backL_get own k hk]
      refine ⟨rfl, fun v hv => ?_⟩
      simp only [List.mem_cons, List.not_mem_nil, or_false] at hv
      rcases hv with rfl | rfl <;> rfl
    · intro k b _
      simp [RoundM]
    · intro k b Q' hk ⟨_, hrun, hbd⟩ hn hxt hrt
      rw [backL_len] at hk
      rw [backL_get own k hk]
      obtain ⟨i, hi⟩ : ∃ i : Nat, own.length - 1 - k = i := ⟨_, rfl⟩
      have hil : i < own.length := by omega
      have hki : own.length - k = i + 1 := by omega
      rw [hi]
      rw [hki, dpRun] at hrun
      have hk16 : k < 16 := by omega
      have hbB : ∀ j r, 0 ≤ b j r ∧ b j r ≤ 272 := fun j r => by have := hbd j r; omega
      have hfb := forb_bound (M := 17) (B := 272) (al := alM own) (i := i) (b := b) (by decide) (by decide) hbB
      simp [parE, renE]
      rw [← forbN_zero 17 (alM own) i b own.length]
      refine LoopK.by (ι := Nat) (fun r => ⟨[(39, iv r), (11, iv i), (4, .pt 4 0 0 0), (8, .pt 8 0 0 0), (10, .pt 10 0 0 0)], [(4, some ⟨2, [treeV par ats], 0, true⟩), (8, some ⟨1, [ints own], 0, true⟩), (10, some ⟨1, [.sl 34 0 0 own.length], 0, true⟩), (34, some ⟨3, rowsB (forbN 17 (alM own) i b r) own.length, 0, false⟩)]⟩)
        (fun r => 3 - r) (fun r => r ≤ 3) 0 (by decide) (by simp) ?_
      intro r Q2 hr3 hq2 he2 hrr2
      have hlen := rowsB_len (forbN 17 (alM own) i b r) own.length
      have hnth := nth_rows (b := forbN 17 (alM own) i b r) hil
      have hq3 := hq2 (r + 1)
      have hsk : alM own i r = true → forbN 17 (alM own) i b ((r + 1 : Nat) : Int) = forbN 17 (alM own) i b r := fun h => forbN_skip h
      have hht : alM own i r = false → forbN 17 (alM own) i b ((r + 1 : Nat) : Int) = fun j q => if j = i ∧ q = (r : Int) then 17 else forbN 17 (alM own) i b r j q := fun h => forbN_hit h
      by_cases h1 : r < 3
      · have h1' : (r : Int) < 3 := by omega
        try simp [h1']
        repeat (refine PreK.intro (by first | omega | (intros; first | omega | (refine ⟨by omega, ?_⟩; simp_all; done) | (simp_all; done) | (simp_all; omega))) fun _ => ?_; (try simp [h1']))
        refine CondK.tt ?_
        try simp 
        generalize forbN 17 (alM own) i b r = c at hlen hnth hsk hht
        by_cases h5 : 0 ≤ el own i
        · by_cases h6 : el own i = (r : Int)
          · have hal : alM own i r = true := by simp [alM, h6]
            rw [hsk hal] at hq3
            have hrc : r = 0 ∨ r = 1 ∨ r = 2 := by omega
            rcases hrc with rfl | rfl | rfl
            all_goals
              simp at h6
              try simp [hil, h5, h6]
              repeat (refine PreK.intro (by first | omega | (intros; first | omega | (refine ⟨by omega, ?_⟩; simp_all; done) | (simp_all; done) | (simp_all; omega))) fun _ => ?_; (try simp [hil, h5, h6]))
              refine CondK.ff ?_
              try simp 
              repeat (refine PreK.intro (by first | omega | (intros; first | omega | (refine ⟨by omega, ?_⟩; simp_all; done) | (simp_all; done) | (simp_all; omega))) fun _ => ?_; (try simp ))
              exact hq3 _ (by omega) (by omega) (by simp)
          · have hal : alM own i r = false := by simp [alM, h6]; omega
            rw [hht hal] at hq3
            have hrc : r = 0 ∨ r = 1 ∨ r = 2 := by omega
            rcases hrc with rfl | rfl | rfl
            all_goals
              simp at h6
              try simp [hil, h5, h6]
              repeat (refine PreK.intro (by first | omega | (intros; first | omega | (refine ⟨by omega, ?_⟩; simp_all; done) | (simp_all; done) | (simp_all; omega))) fun _ => ?_; (try simp [hil, h5, h6]))
              refine CondK.tt ?_
              try simp 
              repeat (refine PreK.intro (by first | omega | (intros; first | omega | (refine ⟨by omega, ?_⟩; simp_all; done) | (simp_all; done) | (simp_all; omega))) fun _ => ?_; (try simp [hil, hlen, hnth]))
              exact hq3 _ (by omega) (by omega) (by simp; exact .inl (rowsB_set _ _ _ (fun j _ hne => by simp [hne]) (by simp)))
        · have hal : alM own i r = true := by simp [alM]; omega
          rw [hsk hal] at hq3
          try simp [hil, h5]
          repeat (refine PreK.intro (by first | omega | (intros; first | omega | (refine ⟨by omega, ?_⟩; simp_all; done) | (simp_all; done) | (simp_all; omega))) fun _ => ?_; (try simp [hil, h5]))
          refine CondK.ff ?_
          try simp 
          repeat (refine PreK.intro (by first | omega | (intros; first | omega | (refine ⟨by omega, ?_⟩; simp_all; done) | (simp_all; done) | (simp_all; omega))) fun _ => ?_; (try simp ))
          exact hq3 _ (by omega) (by omega) (by simp)
      · have h1' : ¬ (r : Int) < 3 := by omega
        obtain rfl : r = 3 := by omega
        try simp [h1']
        repeat (refine PreK.intro (by first | omega | (intros; first | omega | (refine ⟨by omega, ?_⟩; simp_all; done) | (simp_all; done) | (simp_all; omega))) fun _ => ?_; (try simp [h1']))
        refine CondK.ff ?_
        try simp 
        apply he2
        have e3 : rowsB (forbN 17 (alM own) i b ((3 : Nat) : Int)) own.length = rowsB (forb 17 (alM own) i b) own.length := forbN_all _ _ _ _ _
        have e3' : rowsB (forbN 17 (alM own) i b 3) own.length = rowsB (forb 17 (alM own) i b) own.length := forbN_all _ _ _ _ _
        first | rw [e3] | rw [e3']
        by_cases hi0 : i = 0
        · subst hi0
          try simp 
          refine CondK.tt ?_
          try simp 
          rw [dpRun, step_zero] at hrun
          rw [hrun] at hfb ⊢
          apply hxt 0 [(4, some ⟨2, [treeV par ats], 0, true⟩), (8, some ⟨1, [ints own], 0, true⟩), (10, some ⟨1, [.sl 34 0 0 own.length], 0, true⟩), (34, some ⟨3, rowsB (costP par own) own.length, 0, false⟩)]
          · simp
          · simp [RoundM]
          · clear hn hxt hrt hq3 hq2 he2 hrr2 hsk hht hnth hlen e3 e3' hrun hbd hbB
            have hFl := rowsB_len (costP par own) own.length
            generalize hFc : costP par own = F at hfb hFl
            have hoz : List.replicate own.length (AV.raw (.int .i64 0)) = (outG (topD F (alM own) (pf par) 0) (own.length - 0)).map iv := by simp [topD, outG]
            try simp 
            repeat (refine PreK.intro (by first | omega | (intros; first | omega | (refine ⟨by omega, ?_⟩; simp_all; done) | (simp_all; done) | (simp_all; omega))) fun _ => ?_; (try simp ))
            rw [hoz]
            refine LoopK.by (ι := Nat) (fun i => ⟨[(104, iv i), (103, iv own.length), (18, .sl 101 1 0 own.length), (4, .pt 4 1 0 0), (8, .pt 8 1 0 0), (10, .pt 10 1 0 0)],
              [(101, some ⟨1, (outG (topD F (alM own) (pf par) i) (own.length - i)).map iv, 1, false⟩), (4, some ⟨2, [treeV par ats], 1, true⟩), (8, some ⟨1, [ints own], 1, true⟩), (10, some ⟨1, [.sl 34 1 0 own.length], 1, true⟩), (34, some ⟨3, rowsB F own.length, 1, false⟩)]⟩)
              (fun i => own.length - i) (fun i => i ≤ own.length) 0 (Nat.zero_le _) (by simp) ?_
            intro i Q3 hi3 hq he hr
            have hT := topD_len F (alM own) (pf par) i
            try simp 
            refine CondK.intro (fun h2 => ?_) (fun h2 => ?_)
            · simp at h2
              have hq' := hq (i + 1)
              rw [topD] at hq'
              have hnth := nth_rows (b := F) h2
              have hrep : outG (topD F (alM own) (pf par) i) (own.length - i) = outF (topD F (alM own) (pf par) i) (rndN (seenF F (pf par) (topD F (alM own) (pf par) i) i) (alM own i) 0).2 (own.length - (i + 1)) := by
                rw [show own.length - i = (own.length - (i + 1)) + 1 by omega, outG_succ]; rfl
              rw [hrep]
              rw [← outF_end, ← rndN_all] at hq'
              generalize hTT : topD F (alM own) (pf par) i = TT at hT hq'
              have hgb : ∀ r, ok3 r → 0 ≤ seenF F (pf par) TT i r ∧ seenF F (pf par) TT i r ≤ 273 := by
                intro r _
                have h1 := hfb i r
                have h2 := dd_nn r (el TT (pf par i))
                have h3 := dd_le r (el TT (pf par i))
                unfold seenF
                split <;> omega
              have hrb := rndN_bound (al := alM own i) (B := 273) (by decide) hgb
              generalize hZ : own.length - (i + 1) = Z at hq'
              have hset : ∀ v x : Int, ((outF TT v Z).map iv).set i (.raw (.int .i64 x)) = (outF TT x Z).map iv := by
                intro v x
                rw [← hT]; exact outF_set _ _ _ _
              have hol2 : ∀ v : Int, (outF TT v Z).length = own.length := by intro v; rw [outF_len]; omega
              try simp 
              repeat (refine PreK.intro (by first | omega | (intros; first | omega | (refine ⟨by omega, ?_⟩; simp_all; done) | (simp_all; done) | (simp_all; omega))) fun _ => ?_; (try simp [h2, hnth, hFl]))
              refine LoopK.by (ι := Nat) (fun r => ⟨[(111, iv r), (110, .agg [.raw (.int .i64 (F i 0)), .raw (.int .i64 (F i 1)), .raw (.int .i64 (F i 2))]), (20, iv (rndN (seenF F (pf par) TT i) (alM own i) r).1), (19, iv i), (104, iv i), (103, iv own.length), (18, .sl 101 1 0 own.length), (4, .pt 4 1 0 0), (8, .pt 8 1 0 0), (10, .pt 10 1 0 0)],
                [(101, some ⟨1, (outF TT (rndN (seenF F (pf par) TT i) (alM own i) r).2 Z).map iv, 1, false⟩), (4, some ⟨2, [treeV par ats], 1, true⟩), (8, some ⟨1, [ints own], 1, true⟩), (10, some ⟨1, [.sl 34 1 0 own.length], 1, true⟩), (34, some ⟨3, rowsB F own.length, 1, false⟩)]⟩)
                (fun r => 3 - r) (fun r => r ≤ 3) 0 (by decide) (by simp [rndN]) ?_
              intro r Q4 hr4 hq4 he4 hr5
              have hrb1 := hrb r hr4
              have hq5 := hq4 (r + 1)
              rw [rndN, rnd] at hq5
              by_cases h3 : r < 3
              · have h3' : (r : Int) < 3 := by omega
                have hg : seenF F (pf par) TT i r = F i r + if i = 0 then 0 else dd r (el TT (pf par i)) := rfl
                rw [hg] at hq5
                generalize rndN (seenF F (pf par) TT i) (alM own i) r = S at hrb1 hq5
                obtain ⟨S1, S2⟩ := S
                dsimp only at hrb1 hq5
                have hol3 := hol2 S2
                have hset3 := hset S2
                by_cases hal : alM own i r = true
                · rw [if_neg (by simp [hal])] at hq5
                  have hown : el own i < 0 ∨ el own i = (r : Int) := by simpa [alM] using hal
                  have hg0 : ∀ r : Int, (F i r + 0) = F i r := fun r => by omega
                  have hFe0 : r = 0 → F i (r : Int) = F i 0 := fun h => by rw [h]; rfl
                  have hFe1 : r = 1 → F i (r : Int) = F i 1 := fun h => by rw [h]; rfl
                  have hFe2 : r = 2 → F i (r : Int) = F i 2 := fun h => by rw [h]; rfl
                  have hrc : r = 0 ∨ r = 1 ∨ r = 2 := by omega
                  rcases hrc with rfl | rfl | rfl
                  all_goals
                    try have hFe := hFe0 rfl
                    try have hFe := hFe1 rfl
                    try have hFe := hFe2 rfl
                    clear hFe0 hFe1 hFe2
                    try simp 
                    repeat (refine PreK.intro (by first | omega | (intros; first | omega | (refine ⟨by omega, ?_⟩; simp_all; done) | (simp_all; done) | (simp_all; omega))) fun _ => ?_; (try simp ))
                    refine CondK.tt ?_
                    try simp 
                    have hF0 := hfb i 0
                    have hF1 := hfb i 1
                    have hF2 := hfb i 2
                    rcases Decidable.em (i = 0) with hi0 | hi0
                    · rw [if_pos hi0] at hq5
                      subst hi0
                      have h0p : 0 < par.length := hpos
                      have hroot := hx.root
                      have h00 : 0 < (outF TT S2 Z).length := by rw [hol3]; omega
                      rcases hown with h5 | h6
                      · have h5' : ¬ 0 ≤ el own 0 := by omega
                        try simp [h2, h5']
                        repeat (refine PreK.intro (by first | omega | (intros; first | omega | (refine ⟨by omega, ?_⟩; simp_all; done) | (simp_all; done) | (simp_all; omega))) fun _ => ?_; (try simp [h2, h5']))
                        refine CondK.ff ?_
                        try simp 
                        try simp [h2, h0p, hroot, h00]
                        repeat (refine PreK.intro (by first | omega | (intros; first | omega | (refine ⟨by omega, ?_⟩; simp_all; done) | (simp_all; done) | (simp_all; omega))) fun _ => ?_; (try simp [h2, h0p, hroot, h00]))
                        refine CondK.ff ?_
                        try simp 
                        try simp 
                        refine CondK.intro (fun h7 => ?_) (fun h7 => ?_)
                        · rw [if_pos (by simp at h7; omega)] at hq5
                          try simp [h2, hol3]
                          repeat (refine PreK.intro (by first | omega | (intros; first | omega | (refine ⟨by omega, ?_⟩; simp_all; done) | (simp_all; done) | (simp_all; omega))) fun _ => ?_; (try simp [h2, hol3]))
                          exact hq5 _ (by omega) (by omega) (by simp; exact .inl (hset3 _))
                        · rw [if_neg (by simp at h7; omega)] at hq5
                          try simp 
                          repeat (refine PreK.intro (by first | omega | (intros; first | omega | (refine ⟨by omega, ?_⟩; simp_all; done) | (simp_all; done) | (simp_all; omega))) fun _ => ?_; (try simp ))
                          exact hq5 _ (by omega) (by omega) (by simp)
                      · simp at h6
                        try simp [h2, h6]
                        repeat (refine PreK.intro (by first | omega | (intros; first | omega | (refine ⟨by omega, ?_⟩; simp_all; done) | (simp_all; done) | (simp_all; omega))) fun _ => ?_; (try simp [h2, h6]))
                        refine CondK.ff ?_
                        try simp 
                        try simp [h2, h0p, hroot, h00]
                        repeat (refine PreK.intro (by first | omega | (intros; first | omega | (refine ⟨by omega, ?_⟩; simp_all; done) | (simp_all; done) | (simp_all; omega))) fun _ => ?_; (try simp [h2, h0p, hroot, h00]))
                        refine CondK.ff ?_
                        try simp 
                        try simp 
                        refine CondK.intro (fun h7 => ?_) (fun h7 => ?_)
                        · rw [if_pos (by simp at h7; omega)] at hq5
                          try simp [h2, hol3]
                          repeat (refine PreK.intro (by first | omega | (intros; first | omega | (refine ⟨by omega, ?_⟩; simp_all; done) | (simp_all; done) | (simp_all; omega))) fun _ => ?_; (try simp [h2, hol3]))
                          exact hq5 _ (by omega) (by omega) (by simp; exact .inl (hset3 _))
                        · rw [if_neg (by simp at h7; omega)] at hq5
                          try simp 
                          repeat (refine PreK.intro (by first | omega | (intros; first | omega | (refine ⟨by omega, ?_⟩; simp_all; done) | (simp_all; done) | (simp_all; omega))) fun _ => ?_; (try simp ))
                          exact hq5 _ (by omega) (by omega) (by simp)
                    · have hi0' : 0 < i := by omega
                      have hi0'' : (0 : Int) < (i : Int) := by omega
                      rw [if_neg hi0] at hq5
                      have hip : i < par.length := by omega
                      have hpf := hx.pfE (show 1 ≤ i by omega) hip
                      have hpi : el par i = ((pf par i : Nat) : Int) := hpf.2.symm
                      have hplt := pf_lt par i (by omega)
                      have hel := outF_el TT S2 Z (pf par i) (by omega)
                      generalize pf par i = m at hpi hplt hel hq5
                      have hmo : m < (outF TT S2 Z).length := by omega
                      have hml : m < own.length := by omega
                      generalize el TT m = e at hel hq5
                      rcases hown with h5 | h6
                      · have h5' : ¬ 0 ≤ el own i := by omega
                        try simp [h2, h5']
                        repeat (refine PreK.intro (by first | omega | (intros; first | omega | (refine ⟨by omega, ?_⟩; simp_all; done) | (simp_all; done) | (simp_all; omega))) fun _ => ?_; (try simp [h2, h5']))
                        refine CondK.ff ?_
                        try simp 
                        try simp [h2, hi0', hi0'', hip, hpi, hol3, hmo, hml, hel]
                        repeat (refine PreK.intro (by first | omega | (intros; first | omega | (refine ⟨by omega, ?_⟩; simp_all; done) | (simp_all; done) | (simp_all; omega))) fun _ => ?_; (try simp [h2, hi0', hi0'', hip, hpi, hol3, hmo, hml, hel]))
                        refine CondK.intro (fun h8 => ?_) (fun h8 => ?_)
                        · simp at h8
                          have hdd : ∀ q : Int, ¬ q = e → dd q e = 1 := fun q h => by unfold dd; rw [if_neg h]
                          rw [hdd _ (by simpa using h8)] at hq5
                          try simp 
                          repeat (refine PreK.intro (by first | omega | (intros; first | omega | (refine ⟨by omega, ?_⟩; simp_all; done) | (simp_all; done) | (simp_all; omega))) fun _ => ?_; (try simp ))
                          refine CondK.intro (fun h7 => ?_) (fun h7 => ?_)
                          · rw [if_pos (by simp at h7; omega)] at hq5
                            try simp [h2, hol3]
                            repeat (refine PreK.intro (by first | omega | (intros; first | omega | (refine ⟨by omega, ?_⟩; simp_all; done) | (simp_all; done) | (simp_all; omega))) fun _ => ?_; (try simp [h2, hol3]))
                            exact hq5 _ (by omega) (by omega) (by simp; exact .inl (hset3 _))
                          · rw [if_neg (by simp at h7; omega)] at hq5
                            try simp 
                            repeat (refine PreK.intro (by first | omega | (intros; first | omega | (refine ⟨by omega, ?_⟩; simp_all; done) | (simp_all; done) | (simp_all; omega))) fun _ => ?_; (try simp ))
                            exact hq5 _ (by omega) (by omega) (by simp)
                        · simp at h8
                          have hdd : ∀ q : Int, q = e → dd q e = 0 := fun q h => by unfold dd; rw [if_pos h]
                          rw [hdd _ (by simpa using h8)] at hq5
                          try simp 
                          repeat (refine PreK.intro (by first | omega | (intros; first | omega | (refine ⟨by omega, ?_⟩; simp_all; done) | (simp_all; done) | (simp_all; omega))) fun _ => ?_; (try simp ))
                          refine CondK.intro (fun h7 => ?_) (fun h7 => ?_)
                          · rw [if_pos (by simp at h7; omega)] at hq5
                            try simp [h2, hol3]
                            repeat (refine PreK.intro (by first | omega | (intros; first | omega | (refine ⟨by omega, ?_⟩; simp_all; done) | (simp_all; done) | (simp_all; omega))) fun _ => ?_; (try simp [h2, hol3]))
                            exact hq5 _ (by omega) (by omega) (by simp; exact .inl (hset3 _))
                          · rw [if_neg (by simp at h7; omega)] at hq5
                            try simp 
                            repeat (refine PreK.intro (by first | omega | (intros; first | omega | (refine ⟨by omega, ?_⟩; simp_all; done) | (simp_all; done) | (simp_all; omega))) fun _ => ?_; (try simp ))
                            exact hq5 _ (by omega) (by omega) (by simp)
                      · simp at h6
                        try simp [h2, h6]
                        repeat (refine PreK.intro (by first | omega | (intros; first | omega | (refine ⟨by omega, ?_⟩; simp_all; done) | (simp_all; done) | (simp_all; omega))) fun _ => ?_; (try simp [h2, h6]))
                        refine CondK.ff ?_
                        try simp 
                        try simp [h2, hi0', hi0'', hip, hpi, hol3, hmo, hml, hel]
                        repeat (refine PreK.intro (by first | omega | (intros; first | omega | (refine ⟨by omega, ?_⟩; simp_all; done) | (simp_all; done) | (simp_all; omega))) fun _ => ?_; (try simp [h2, hi0', hi0'', hip, hpi, hol3, hmo, hml, hel]))
                        refine CondK.intro (fun h8 => ?_) (fun h8 => ?_)
                        · simp at h8
                          have hdd : ∀ q : Int, ¬ q = e → dd q e = 1 := fun q h => by unfold dd; rw [if_neg h]
                          rw [hdd _ (by simpa using h8)] at hq5
                          try simp 
                          repeat (refine PreK.intro (by first | omega | (intros; first | omega | (refine ⟨by omega, ?_⟩; simp_all; done) | (simp_all; done) | (simp_all; omega))) fun _ => ?_; (try simp ))
                          refine CondK.intro (fun h7 => ?_) (fun h7 => ?_)
                          · rw [if_pos (by simp at h7; omega)] at hq5
                            try simp [h2, hol3]
                            repeat (refine PreK.intro (by first | omega | (intros; first | omega | (refine ⟨by omega, ?_⟩; simp_all; done) | (simp_all; done) | (simp_all; omega))) fun _ => ?_; (try simp [h2, hol3]))
                            exact hq5 _ (by omega) (by omega) (by simp; exact .inl (hset3 _))
                          · rw [if_neg (by simp at h7; omega)] at hq5
                            try simp 
                            repeat (refine PreK.intro (by first | omega | (intros; first | omega | (refine ⟨by omega, ?_⟩; simp_all; done) | (simp_all; done) | (simp_all; omega))) fun _ => ?_; (try simp ))
                            exact hq5 _ (by omega) (by omega) (by simp)
                        · simp at h8
                          have hdd : ∀ q : Int, q = e → dd q e = 0 := fun q h => by unfold dd; rw [if_pos h]
                          rw [hdd _ (by simpa using h8)] at hq5
                          try simp 
                          repeat (refine PreK.intro (by first | omega | (intros; first | omega | (refine ⟨by omega, ?_⟩; simp_all; done) | (simp_all; done) | (simp_all; omega))) fun _ => ?_; (try simp ))
                          refine CondK.intro (fun h7 => ?_) (fun h7 => ?_)
                          · rw [if_pos (by simp at h7; omega)] at hq5
                            try simp [h2, hol3]
                            repeat (refine PreK.intro (by first | omega | (intros; first | omega | (refine ⟨by omega, ?_⟩; simp_all; done) | (simp_all; done) | (simp_all; omega))) fun _ => ?_; (try simp [h2, hol3]))
                            exact hq5 _ (by omega) (by omega) (by simp; exact .inl (hset3 _))
                          · rw [if_neg (by simp at h7; omega)] at hq5
                            try simp 
                            repeat (refine PreK.intro (by first | omega | (intros; first | omega | (refine ⟨by omega, ?_⟩; simp_all; done) | (simp_all; done) | (simp_all; omega))) fun _ => ?_; (try simp ))
                            exact hq5 _ (by omega) (by omega) (by simp)
                · have hal' : alM own i r = false := by simpa using hal
                  rw [if_pos hal'] at hq5
                  have h5 : 0 ≤ el own i := by simp [alM] at hal'; omega
                  have h6 : ¬ el own i = (r : Int) := by simp [alM] at hal'; omega
                  have hrc : r = 0 ∨ r = 1 ∨ r = 2 := by omega
                  rcases hrc with rfl | rfl | rfl
                  all_goals
                    simp at h6
                    try simp 
                    repeat (refine PreK.intro (by first | omega | (intros; first | omega | (refine ⟨by omega, ?_⟩; simp_all; done) | (simp_all; done) | (simp_all; omega))) fun _ => ?_; (try simp ))
                    refine CondK.tt ?_
                    try simp 
                    try simp [h2, h5, h6]
                    repeat (refine PreK.intro (by first | omega | (intros; first | omega | (refine ⟨by omega, ?_⟩; simp_all; done) | (simp_all; done) | (simp_all; omega))) fun _ => ?_; (try simp [h2, h5, h6]))
                    refine CondK.tt ?_
                    try simp 
                    try simp 
                    repeat (refine PreK.intro (by first | omega | (intros; first | omega | (refine ⟨by omega, ?_⟩; simp_all; done) | (simp_all; done) | (simp_all; omega))) fun _ => ?_; (try simp ))
                    exact hq5 _ (by omega) (by omega) (by simp)
              · have h3' : ¬ (r : Int) < 3 := by omega
                obtain rfl : r = 3 := by omega
                try simp [h3']
                repeat (refine PreK.intro (by first | omega | (intros; first | omega | (refine ⟨by omega, ?_⟩; simp_all; done) | (simp_all; done) | (simp_all; omega))) fun _ => ?_; (try simp [h3']))
                refine CondK.ff ?_
                try simp 
                apply he4
                repeat (refine PreK.intro (by first | omega | (intros; first | omega | (refine ⟨by omega, ?_⟩; simp_all; done) | (simp_all; done) | (simp_all; omega))) fun _ => ?_; (try simp ))
                exact hq' _ (by omega) (by omega) (by simp)
            · simp at h2
              obtain rfl : i = own.length := by omega
              have eR : outG (topD F (alM own) (pf par) own.length) (own.length - own.length) = readM par own := by
                rw [Nat.sub_self]
                unfold outG readM
                rw [hFc, hol]
                simp
              have hrl := readM_len par own
              rw [eR]
              try simp 
              apply he
              try simp 
              rw [← hR]
              refine ⟨[], ?_⟩
              simp [frzs]
              repeat (refine PreK.intro (by first | omega | (intros; first | omega | (refine ⟨by omega, ?_⟩; simp_all; done) | (simp_all; done) | (simp_all; omega))) fun _ => ?_; (try simp [hrl, hol]))
              exact List.take_of_length_le (by simp [hrl])
        · have hi0' : ¬ (i : Int) = 0 := by omega
          have hip : i < par.length := by omega
          have hpf := hx.pfE (show 1 ≤ i by omega) hip
          have hpi : el par i = ((pf par i : Nat) : Int) := hpf.2.symm
          have hplt := pf_lt par i (by omega)
          have hadd := addN_all 17 (alM own) (pf par) i hi0 b own.length
          have hsb := step_bound (M := 17) (B := 17 * ((k : Int) + 1)) (al := alM own) (p := pf par) (i := i) (b := b) (by decide) (by omega) hbd
          generalize hm : pf par i = m at hpi hplt hadd
          generalize hfc : forb 17 (alM own) i b = fb at hfb hadd
          try simp [hi0', hi0]
          repeat (refine PreK.intro (by first | omega | (intros; first | omega | (refine ⟨by omega, ?_⟩; simp_all; done) | (simp_all; done) | (simp_all; omega))) fun _ => ?_; (try simp [hi0', hi0]))
          refine CondK.ff ?_
          try simp 
          repeat (refine PreK.intro (by first | omega | (intros; first | omega | (refine ⟨by omega, ?_⟩; simp_all; done) | (simp_all; done) | (simp_all; omega))) fun _ => ?_; (try simp [hip, hpi]))
          rw [← addN_zero 17 i m fb own.length]
          refine LoopK.by (ι := Nat) (fun r => ⟨[(68, iv r), (13, iv m), (11, iv i), (10, .pt 10 0 0 0)], [(4, some ⟨2, [treeV par ats], 0, true⟩), (8, some ⟨1, [ints own], 0, true⟩), (10, some ⟨1, [.sl 34 0 0 own.length], 0, true⟩), (34, some ⟨3, rowsB (addN 17 i m fb r) own.length, 0, false⟩)]⟩)
            (fun r => 3 - r) (fun r => r ≤ 3) 0 (by decide) (by simp) ?_
          clear hq3 hq2 he2 hrr2 hsk hht hnth hlen e3 e3' hr3 h1 h1'
          intro r Q3 hr3 hq3 he3 hrr3
          have hlen := rowsB_len (addN 17 i m fb r) own.length
          have hnth := nth_rows (b := addN 17 i m fb r) hil
          have hnm := nth_rows (b := addN 17 i m fb r) (show m < own.length by omega)
          have hci : ∀ q, addN 17 i m fb r i q = fb i q := fun q => by simp [addN]; omega
          have hcm : addN 17 i m fb r m r = fb m r := by simp [addN]
          have hq4 := hq3 (r + 1)
          have hsu : addN 17 i m fb ((r + 1 : Nat) : Int) = fun j q => if j = m ∧ q = (r : Int) then fb m r + leastF 17 (fb i) r else addN 17 i m fb r j q := addN_succ (q := (r : Int))
          rw [hsu] at hq4
          have hf0 := hfb i 0
          have hf1 := hfb i 1
          have hf2 := hfb i 2
          have hfm := hfb m r
          by_cases h1 : r < 3
          · have h1' : (r : Int) < 3 := by omega
            try simp [h1']
            repeat (refine PreK.intro (by first | omega | (intros; first | omega | (refine ⟨by omega, ?_⟩; simp_all; done) | (simp_all; done) | (simp_all; omega))) fun _ => ?_; (try simp [h1']))
            refine CondK.tt ?_
            try simp 
            repeat (refine PreK.intro (by first | omega | (intros; first | omega | (refine ⟨by omega, ?_⟩; simp_all; done) | (simp_all; done) | (simp_all; omega))) fun _ => ?_; (try simp [hil, hlen, hnth, hci]))
            refine LoopK.by (ι := Nat) (fun q => ⟨[(75, iv q), (74, .agg [.raw (.int .i64 (fb i 0)), .raw (.int .i64 (fb i 1)), .raw (.int .i64 (fb i 2))]), (15, iv (leastN 17 (fb i) r q)), (14, iv r), (68, iv r), (13, iv m), (11, iv i), (10, .pt 10 0 0 0)], [(4, some ⟨2, [treeV par ats], 0, true⟩), (8, some ⟨1, [ints own], 0, true⟩), (10, some ⟨1, [.sl 34 0 0 own.length], 0, true⟩), (34, some ⟨3, rowsB (addN 17 i m fb r) own.length, 0, false⟩)]⟩)
              (fun q => 3 - q) (fun q => q ≤ 3) 0 (by decide) (by simp [leastN]) ?_
            intro q Q5 hq35 hq5 he5 hr5
            have hlb := leastN_bound (M := 17) (f := fb i) (r := r) (by decide) (fun q => (hfb i q).1) q
            have hq6 := hq5 (q + 1)
            rw [leastN] at hq6
            by_cases h2 : q < 3
            · have hqc : q = 0 ∨ q = 1 ∨ q = 2 := by omega
              generalize leastN 17 (fb i) r q = S at hlb hq6
              rcases hqc with rfl | rfl | rfl
              · try simp 
                refine CondK.tt ?_
                try simp 
                repeat (refine PreK.intro (by first | omega | (intros; first | omega | (refine ⟨by omega, ?_⟩; simp_all; done) | (simp_all; done) | (simp_all; omega))) fun _ => ?_; (try simp ))
                refine CondK.intro (fun h3 => ?_) (fun h3 => ?_)
                · have hdd : dd ((0 : Nat) : Int) r = 1 := by unfold dd; rw [if_neg (by simp at h3; omega)]
                  rw [hdd, Int.min_def] at hq6
                  repeat (refine PreK.intro (by first | omega | (intros; first | omega | (refine ⟨by omega, ?_⟩; simp_all; done) | (simp_all; done) | (simp_all; omega))) fun _ => ?_; (try simp ))
                  have hmm : (if fb i 0 + 1 < S then fb i 0 + 1 else S) = if S ≤ fb i ((0 : Nat) : Int) + 1 then S else fb i ((0 : Nat) : Int) + 1 := by
                    by_cases hc : fb i 0 + 1 < S
                    · rw [if_pos hc, if_neg (by simpa using hc)]; rfl
                    · rw [if_neg hc, if_pos (by simpa using hc)]
                  rw [← hmm] at hq6
                  exact hq6 _ (by omega) (by omega) (by simp)
                · have hdd : dd ((0 : Nat) : Int) r = 0 := by unfold dd; rw [if_pos (by simp at h3; omega)]
                  rw [hdd, Int.min_def] at hq6
                  repeat (refine PreK.intro (by first | omega | (intros; first | omega | (refine ⟨by omega, ?_⟩; simp_all; done) | (simp_all; done) | (simp_all; omega))) fun _ => ?_; (try simp ))
                  have hmm : (if fb i 0 < S then fb i 0 else S) = if S ≤ fb i ((0 : Nat) : Int) + 0 then S else fb i ((0 : Nat) : Int) + 0 := by
                    by_cases hc : fb i 0 < S
                    · rw [if_pos hc, if_neg (by simpa using hc)]; simp
                    · rw [if_neg hc, if_pos (by simpa using hc)]
                  rw [← hmm] at hq6
                  exact hq6 _ (by omega) (by omega) (by simp)
              · try simp 
                refine CondK.tt ?_
                try simp 
                repeat (refine PreK.intro (by first | omega | (intros; first | omega | (refine ⟨by omega, ?_⟩; simp_all; done) | (simp_all; done) | (simp_all; omega))) fun _ => ?_; (try simp ))
                refine CondK.intro (fun h3 => ?_) (fun h3 => ?_)
                · have hdd : dd ((1 : Nat) : Int) r = 1 := by unfold dd; rw [if_neg (by simp at h3; omega)]
                  rw [hdd, Int.min_def] at hq6
                  repeat (refine PreK.intro (by first | omega | (intros; first | omega | (refine ⟨by omega, ?_⟩; simp_all; done) | (simp_all; done) | (simp_all; omega))) fun _ => ?_; (try simp ))
                  have hmm : (if fb i 1 + 1 < S then fb i 1 + 1 else S) = if S ≤ fb i ((1 : Nat) : Int) + 1 then S else fb i ((1 : Nat) : Int) + 1 := by
                    by_cases hc : fb i 1 + 1 < S
                    · rw [if_pos hc, if_neg (by simpa using hc)]; rfl
                    · rw [if_neg hc, if_pos (by simpa using hc)]
                  rw [← hmm] at hq6
                  exact hq6 _ (by omega) (by omega) (by simp)
                · have hdd : dd ((1 : Nat) : Int) r = 0 := by unfold dd; rw [if_pos (by simp at h3; omega)]
                  rw [hdd, Int.min_def] at hq6
                  repeat (refine PreK.intro (by first | omega | (intros; first | omega | (refine ⟨by omega, ?_⟩; simp_all; done) | (simp_all; done) | (simp_all; omega))) fun _ => ?_; (try simp ))
                  have hmm : (if fb i 1 < S then fb i 1 else S) = if S ≤ fb i ((1 : Nat) : Int) + 0 then S else fb i ((1 : Nat) : Int) + 0 := by
                    by_cases hc : fb i 1 < S
                    · rw [if_pos hc, if_neg (by simpa using hc)]; simp
                    · rw [if_neg hc, if_pos (by simpa using hc)]
                  rw [← hmm] at hq6
                  exact hq6 _ (by omega) (by omega) (by simp)
              · try simp 
                refine CondK.tt ?_
                try simp 
                repeat (refine PreK.intro (by first | omega | (intros; first | omega | (refine ⟨by omega, ?_⟩; simp_all; done) | (simp_all; done) | (simp_all; omega))) fun _ => ?_; (try simp ))
                refine CondK.intro (fun h3 => ?_) (fun h3 => ?_)
                · have hdd : dd ((2 : Nat) : Int) r = 1 := by unfold dd; rw [if_neg (by simp at h3; omega)]
                  rw [hdd, Int.min_def] at hq6
                  repeat (refine PreK.intro (by first | omega | (intros; first | omega | (refine ⟨by omega, ?_⟩; simp_all; done) | (simp_all; done) | (simp_all; omega))) fun _ => ?_; (try simp ))
                  have hmm : (if fb i 2 + 1 < S then fb i 2 + 1 else S) = if S ≤ fb i ((2 : Nat) : Int) + 1 then S else fb i ((2 : Nat) : Int) + 1 := by
                    by_cases hc : fb i 2 + 1 < S
                    · rw [if_pos hc, if_neg (by simpa using hc)]; rfl
                    · rw [if_neg hc, if_pos (by simpa using hc)]
                  rw [← hmm] at hq6
                  exact hq6 _ (by omega) (by omega) (by simp)
                · have hdd : dd ((2 : Nat) : Int) r = 0 := by unfold dd; rw [if_pos (by simp at h3; omega)]
                  rw [hdd, Int.min_def] at hq6
                  repeat (refine PreK.intro (by first | omega | (intros; first | omega | (refine ⟨by omega, ?_⟩; simp_all; done) | (simp_all; done) | (simp_all; omega))) fun _ => ?_; (try simp ))
                  have hmm : (if fb i 2 < S then fb i 2 else S) = if S ≤ fb i ((2 : Nat) : Int) + 0 then S else fb i ((2 : Nat) : Int) + 0 := by
                    by_cases hc : fb i 2 < S
                    · rw [if_pos hc, if_neg (by simpa using hc)]; simp
                    · rw [if_neg hc, if_pos (by simpa using hc)]
                  rw [← hmm] at hq6
                  exact hq6 _ (by omega) (by omega) (by simp)
            · obtain rfl : q = 3 := by omega
              try simp 
              refine CondK.ff ?_
              try simp 
              apply he5
              rw [leastN_all] at hlb
              have hml : m < own.length := by omega
              first | rw [leastN_all] | skip
              generalize addN 17 i m fb (r : Int) = c at hlen hnth hnm hci hcm hq4
              generalize leastF 17 (fb i) r = LL at hlb hq4
              have hrc : r = 0 ∨ r = 1 ∨ r = 2 := by omega
              rcases hrc with rfl | rfl | rfl
              all_goals
                simp at hcm hfm
                try simp [hml, hlen, hnm, hcm]
                repeat (refine PreK.intro (by first | omega | (intros; first | omega | (refine ⟨by omega, ?_⟩; simp_all; done) | (simp_all; done) | (simp_all; omega))) fun _ => ?_; (try simp [hml, hlen, hnm, hcm]))
                exact hq4 _ (by omega) (by omega) (by simp; exact .inl (rowsB_set _ _ _ (fun j _ hne => by simp [hne]) (by simp)))
          · have h1' : ¬ (r : Int) < 3 := by omega
            obtain rfl : r = 3 := by omega
            try simp [h1']
            repeat (refine PreK.intro (by first | omega | (intros; first | omega | (refine ⟨by omega, ?_⟩; simp_all; done) | (simp_all; done) | (simp_all; omega))) fun _ => ?_; (try simp [h1']))
            refine CondK.ff ?_
            try simp 
            apply he3
            have hri : own.length - (k + 1) = i := by omega
            refine hn (dpStep 17 (alM own) (pf par) i b) _ ⟨by omega, by rw [hri]; exact hrun, fun j r => ⟨(hsb j r).1, by have := (hsb j r).2; omega⟩⟩ ?_
            simp
            exact hadd
    · rintro b ⟨h, _⟩
      rw [backL_len] at h
      omega
end Go.Proofs.Ytnpkaemlidifgaa
end

section
/- PURSE -/
/- Contracts: the document's smallest number of changes. -/
namespace Go.Proofs.Ytnpkaemlidifgaa
open Go.Abs Go
set_option maxRecDepth 20000
set_option maxHeartbeats 8000000
attribute [local irreducible] PreK CondK CallK CallG CallX LoopK
attribute [local simp] avsEq avEq akind teq vkind vEq

end Go.Proofs.Ytnpkaemlidifgaa
end

section
/- Contracts: the fewest changes, readings, totals, claimed readings, copies apart; by both ways. -/
namespace Go.Proofs.Ytnpkaemlidifgaa
open Go.Abs Go
set_option maxRecDepth 20000
set_option maxHeartbeats 2000000
attribute [local irreducible] PreK CondK CallK CallG CallX LoopK
attribute [local simp] avsEq avEq akind teq vkind vEq

theorem fits_zero {t : List (List Int)} {par ats ps : List Int} (h : fitsErr t par ats ps = 0) : Rds t ∧ Treed par ats ∧ ats.length = t.length ∧ placedErr t ps = 0 ∧ treedErr t par ats = 0 := by
  unfold fitsErr at h
  split at h
  · rename_i h1; exact absurd h h1
  · rename_i h1
    have h1' : treedErr t par ats = 0 := by simpa using h1
    have h2 := h1'
    unfold treedErr at h2
    split at h2
    · rename_i h3; exact absurd h2 h3
    · rename_i h3
      split at h2
      · rename_i h4; exact absurd h2 h4
      · rename_i h4
        split at h2
        · cases h2
        · rename_i h5
          exact ⟨vErr_zero (by simpa using h3), treeErr_zero (by simpa using h4), by simpa using h5, h, h1'⟩
def FewR (t : List (List Int)) (par ats : List Int) (p : Int) : Int × Bool × Int :=
  if fitsErr t par ats [p] ≠ 0 then (0, false, fitsErr t par ats [p]) else match bestR par (prs t ats p.toNat) with | some o => (chgM par o, true, 0) | none => (0, false, 0)
theorem Fewest_c (t : List (List Int)) (par ats : List Int) (p : Int) (h : Sm t) (hp : par.length ≤ 1000) (ha : ats.length ≤ 1000) :
    CallP Try.prog 21 [rdsV t, treeV par ats, iv p] (.tup [iv (FewR t par ats p).1, bv (FewR t par ats p).2.1, iv (FewR t par ats p).2.2]) := by
  refine C21 (by simp) ?_
  have hf := fits_c t par ats [p] h hp ha (by simp)
  simp [A21]
  refine CallX.pure (CallP.weak (by simpa [weakL, weak] using hf)) (by simp) (by simp) ?_
  try simp 
  refine CondK.intro (fun h1 => ?_) (fun h1 => ?_)
  · simp at h1
    simp [FewR, h1]
  · simp at h1
    obtain ⟨hr, hx, hl, hpl, _⟩ := fits_zero h1
    obtain ⟨n, rfl, hn⟩ := placed_nat hpl (List.mem_singleton.2 rfl)
    have hb := best_c t par ats n hr hx hl hn
    have hR : FewR t par ats n = match bestR par (prs t ats n) with | some o => (chgM par o, true, 0) | none => (0, false, 0) := by unfold FewR; rw [if_neg (by simp [h1])]; rfl
    rw [hR]
    cases hbr : bestR par (prs t ats n) with
    | none =>
      rw [hbr] at hb
      try simp 
      repeat' (first
        | (refine CallX.pure (hb) (by simp) (by simp) ?_; try simp )
        | (refine CallK.intro (hb) (by simp) (by simp) ?_; try simp )
        | (refine CallG.intro (fun _ => hb) (by simp) (by simp) ?_; try simp )
        | ((with_reducible refine PreK.intro ?_ ?_); (next => (first | omega | (intros; first | omega | (refine ⟨by omega, ?_⟩; repeat (first | assumption | constructor)) | assumption))); intro _; try simp )
        | fail)
      refine CondK.tt ?_
      try simp 
    | some o =>
      rw [hbr] at hb
      have hol := (best_fits hr hx hl hn hbr).1
      try simp 
      repeat' (first
        | (refine CallX.pure (hb) (by simp) (by simp) ?_; try simp )
        | (refine CallK.intro (hb) (by simp) (by simp) ?_; try simp )
        | (refine CallG.intro (fun _ => hb) (by simp) (by simp) ?_; try simp )
        | ((with_reducible refine PreK.intro ?_ ?_); (next => (first | omega | (intros; first | omega | (refine ⟨by omega, ?_⟩; repeat (first | assumption | constructor)) | assumption))); intro _; try simp )
        | fail)
      refine CondK.ff ?_
      try simp 
      try simp 
      repeat' (first
        | (refine CallX.pure (changes_c par ats o hx hol) (by simp) (by simp) ?_; try simp )
        | (refine CallK.intro (changes_c par ats o hx hol) (by simp) (by simp) ?_; try simp )
        | (refine CallG.intro (fun _ => changes_c par ats o hx hol) (by simp) (by simp) ?_; try simp )
        | ((with_reducible refine PreK.intro ?_ ?_); (next => (first | omega | (intros; first | omega | (refine ⟨by omega, ?_⟩; repeat (first | assumption | constructor)) | assumption))); intro _; try simp )
        | fail)
end Go.Proofs.Ytnpkaemlidifgaa
end

section
/- Functions of the cut as the value layer reads them. (written by gen.py) -/
set_option maxRecDepth 20000
namespace Go.Proofs.Ytnpkaemlidifgaa
open Go.Abs Go

def A15 : ACode :=
  (.seq (.reg [] [⟨some 2, (.assign (.const (.bool false))), 4, none⟩])
    (.seq (.seq (.reg [] [⟨some 7, (.move (.tmp 0)), 22, none⟩,
      ⟨some 8, (.call ⟨(.value (.func 18)), #[(.tmp 7)], #[22]⟩), 4, none⟩])
    (.cond (.tmp 8)
    (.seq (.reg [] [⟨some 9, (.call ⟨(.value (.func 20)), #[], #[]⟩), 4, none⟩,
      ⟨some 2, (.assign (.tmp 9)), 4, none⟩])
    .ret)
    .skip))
    (.seq (.reg [] [⟨some 11, (.move (.tmp 0)), 22, none⟩,
      ⟨some 12, (.call ⟨(.value (.func 56)), #[(.tmp 11)], #[22]⟩), 64, none⟩,
      ⟨some 10, (.move (.tmp 12)), 64, none⟩,
      ⟨some 13, (.extract (.tmp 10) 0), 23, none⟩,
      ⟨some 14, (.extract (.tmp 10) 1), 29, none⟩,
      ⟨some 3, (.assign (.tmp 13)), 23, none⟩,
      ⟨some 4, (.assign (.tmp 14)), 29, none⟩])
    (.seq (.reg [] [⟨some 16, (.move (.tmp 0)), 22, none⟩,
      ⟨some 17, (.call ⟨(.value (.func 57)), #[(.tmp 16)], #[22]⟩), 64, none⟩,
      ⟨some 15, (.move (.tmp 17)), 64, none⟩,
      ⟨some 18, (.extract (.tmp 15) 0), 23, none⟩,
      ⟨some 19, (.extract (.tmp 15) 1), 29, none⟩,
      ⟨some 5, (.assign (.tmp 18)), 23, none⟩,
      ⟨some 6, (.assign (.tmp 19)), 29, none⟩])
    (.seq (.reg [] [⟨some 20, (.move (.tmp 3)), 23, none⟩,
      ⟨some 21, (.move (.tmp 5)), 23, none⟩,
      ⟨some 22, (.call ⟨(.value (.func 36)), #[(.tmp 20), (.tmp 21)], #[23, 23]⟩), 4, none⟩,
      ⟨some 23, (.move (.tmp 22)), 4, none⟩,
      ⟨some 24, (.move (.tmp 4)), 29, some (23, true)⟩,
      ⟨some 25, (.move (.tmp 6)), 29, some (23, true)⟩,
      ⟨some 26, (.binOp .eql 29 (.tmp 24) (.tmp 25) 29), 4, some (23, true)⟩,
      ⟨some 27, (.pick (.tmp 23) (.tmp 26) (.const (.bool false))), 4, none⟩,
      ⟨some 28, (.move (.tmp 27)), 4, none⟩,
      ⟨some 29, (.call ⟨(.value (.func 20)), #[], #[]⟩), 4, some (28, true)⟩,
      ⟨some 30, (.pick (.tmp 28) (.tmp 29) (.const (.bool false))), 4, none⟩,
      ⟨some 2, (.assign (.tmp 30)), 4, none⟩])
    .ret)))))
theorem C15 {args : List AV} {r : AV} (hn : args.length ≤ 31) (h : vc Try.prog T [] A15 (Fin T [(.tmp 2)] r) ⟨envOf 0 args, []⟩) : CallP Try.prog 15 args r :=
  callP_of tok mixed Try.func15 (by kernel_rfl) (by kernel_rfl) (by kernel_rfl : Try.f15.ntmps = 31) (by kernel_rfl : Try.f15.body.bind (strip 31 (fun _ => [])) = some A15) hn h
def A18 : ACode :=
  (.seq (.reg [] [⟨some 2, (.assign (.const (.bool false))), 4, none⟩])
    (.seq (.seq (.reg [] [⟨some 3, (.assign (.const (.int .i64 0))), 3, none⟩])
    (.block 0 (.loop (.seq (.seq (.reg [] [⟨some 4, (.move (.tmp 3)), 3, none⟩,
      ⟨some 5, (.move (.tmp 0)), 22, none⟩,
      ⟨some 6, (.call ⟨(.builtin .len), #[(.tmp 5)], #[22]⟩), 3, none⟩,
      ⟨some 7, (.binOp .lss 3 (.tmp 4) (.tmp 6) 3), 4, none⟩])
    (.cond (.tmp 7)
    .skip
    (.exit 0)))
    (.seq (.block 1 (.seq (.reg [] [⟨some 10, (.move (.tmp 0)), 22, none⟩,
      ⟨some 11, (.move (.tmp 3)), 3, none⟩,
      ⟨some 12, (.indexAddr 22 (.tmp 10) (.tmp 11)), 0, none⟩,
      ⟨some 13, (.load 23 (.tmp 12)), 23, none⟩,
      ⟨some 14, (.call ⟨(.builtin .len), #[(.tmp 13)], #[23]⟩), 3, none⟩,
      ⟨some 15, (.binOp .gtr 3 (.tmp 14) (.const (.int .i64 50)) 3), 4, none⟩])
    (.cond (.tmp 15)
    (.seq (.reg [] [⟨some 2, (.assign (.const (.bool true))), 4, none⟩])
    .ret)
    .skip)))
    (.reg [] [⟨some 8, (.move (.tmp 3)), 3, none⟩,
      ⟨some 9, (.binOp .add 3 (.tmp 8) (.const (.int .i64 1)) 3), 3, none⟩,
      ⟨some 3, (.assign (.tmp 9)), 3, none⟩]))))))
    (.seq (.reg [] [⟨some 16, (.move (.tmp 0)), 22, none⟩,
      ⟨some 17, (.call ⟨(.builtin .len), #[(.tmp 16)], #[22]⟩), 3, none⟩,
      ⟨some 18, (.binOp .gtr 3 (.tmp 17) (.const (.int .i64 50)) 3), 4, none⟩,
      ⟨some 2, (.assign (.tmp 18)), 4, none⟩])
    .ret)))
theorem C18 {args : List AV} {r : AV} (hn : args.length ≤ 19) (h : vc Try.prog T [] A18 (Fin T [(.tmp 2)] r) ⟨envOf 0 args, []⟩) : CallP Try.prog 18 args r :=
  callP_of tok mixed Try.func18 (by kernel_rfl) (by kernel_rfl) (by kernel_rfl : Try.f18.ntmps = 19) (by kernel_rfl : Try.f18.body.bind (strip 19 (fun _ => [])) = some A18) hn h
def A20 : ACode :=
  (.seq (.reg [] [⟨some 0, (.assign (.const (.bool false))), 4, none⟩])
    (.seq (.reg [] [⟨some 11, (.buildSlice 23 2 #[(0, (.const (.int .i64 0))), (1, (.const (.int .i64 0)))]), 23, none⟩,
      ⟨some 12, (.buildSlice 23 2 #[(0, (.const (.int .i64 0))), (1, (.const (.int .i64 1)))]), 23, none⟩,
      ⟨some 13, (.buildSlice 23 2 #[(0, (.const (.int .i64 1))), (1, (.const (.int .i64 0)))]), 23, none⟩,
      ⟨some 14, (.buildSlice 23 2 #[(0, (.const (.int .i64 1))), (1, (.const (.int .i64 1)))]), 23, none⟩,
      ⟨some 15, (.buildSlice 22 4 #[(0, (.tmp 11)), (1, (.tmp 12)), (2, (.tmp 13)), (3, (.tmp 14))]), 22, none⟩,
      ⟨some 16, (.call ⟨(.value (.func 37)), #[(.tmp 15), (.const (.int .i64 0)), (.const (.int .i64 1))], #[22, 3, 3]⟩), 48, none⟩,
      ⟨some 10, (.move (.tmp 16)), 48, none⟩,
      ⟨some 17, (.extract (.tmp 10) 0), 4, none⟩,
      ⟨some 18, (.extract (.tmp 10) 1), 29, none⟩,
      ⟨some 1, (.assign (.tmp 17)), 4, none⟩,
      ⟨some 2, (.assign (.tmp 18)), 29, none⟩])
    (.seq (.reg [] [⟨some 20, (.buildSlice 23 2 #[(0, (.const (.int .i64 0))), (1, (.const (.int .i64 0)))]), 23, none⟩,
      ⟨some 21, (.buildSlice 23 2 #[(0, (.const (.int .i64 0))), (1, (.const (.int .i64 1)))]), 23, none⟩,
      ⟨some 22, (.buildSlice 23 2 #[(0, (.const (.int .i64 1))), (1, (.const (.int .i64 0)))]), 23, none⟩,
      ⟨some 23, (.buildSlice 22 3 #[(0, (.tmp 20)), (1, (.tmp 21)), (2, (.tmp 22))]), 22, none⟩,
      ⟨some 24, (.call ⟨(.value (.func 37)), #[(.tmp 23), (.const (.int .i64 0)), (.const (.int .i64 1))], #[22, 3, 3]⟩), 48, none⟩,
      ⟨some 19, (.move (.tmp 24)), 48, none⟩,
      ⟨some 25, (.extract (.tmp 19) 0), 4, none⟩,
      ⟨some 26, (.extract (.tmp 19) 1), 29, none⟩,
      ⟨some 3, (.assign (.tmp 25)), 4, none⟩,
      ⟨some 4, (.assign (.tmp 26)), 29, none⟩])
    (.seq (.reg [] [⟨some 28, (.buildSlice 23 1 #[(0, (.const (.int .i64 0)))]), 23, none⟩,
      ⟨some 29, (.buildSlice 23 1 #[(0, (.const (.int .i64 1)))]), 23, none⟩,
      ⟨some 30, (.buildSlice 22 2 #[(0, (.tmp 28)), (1, (.tmp 29))]), 22, none⟩,
      ⟨some 31, (.buildSlice 23 3 #[(0, (.const (.int .i64 (-1)))), (1, (.const (.int .i64 0))), (2, (.const (.int .i64 0)))]), 23, none⟩,
      ⟨some 32, (.buildSlice 23 2 #[(0, (.const (.int .i64 1))), (1, (.const (.int .i64 2)))]), 23, none⟩,
      ⟨some 33, (.build 25 #[(0, (.tmp 31)), (1, (.tmp 32))]), 25, none⟩,
      ⟨some 34, (.call ⟨(.value (.func 21)), #[(.tmp 30), (.tmp 33), (.const (.int .i64 0))], #[22, 25, 3]⟩), 30, none⟩,
      ⟨some 27, (.move (.tmp 34)), 30, none⟩,
      ⟨some 35, (.extract (.tmp 27) 0), 3, none⟩,
      ⟨some 36, (.extract (.tmp 27) 1), 4, none⟩,
      ⟨some 37, (.extract (.tmp 27) 2), 29, none⟩,
      ⟨some 5, (.assign (.tmp 35)), 3, none⟩,
      ⟨some 6, (.assign (.tmp 36)), 4, none⟩,
      ⟨some 7, (.assign (.tmp 37)), 29, none⟩])
    (.seq (.reg [] [⟨some 39, (.buildSlice 23 1 #[(0, (.const (.int .i64 0)))]), 23, none⟩,
      ⟨some 40, (.buildSlice 23 1 #[(0, (.const (.int .i64 1)))]), 23, none⟩,
      ⟨some 41, (.buildSlice 23 1 #[(0, (.const (.int .i64 2)))]), 23, none⟩,
      ⟨some 42, (.buildSlice 22 3 #[(0, (.tmp 39)), (1, (.tmp 40)), (2, (.tmp 41))]), 22, none⟩,
      ⟨some 43, (.call ⟨(.value (.func 23)), #[(.tmp 42), (.const (.int .i64 0))], #[22, 3]⟩), 32, none⟩,
      ⟨some 38, (.move (.tmp 43)), 32, none⟩,
      ⟨some 44, (.extract (.tmp 38) 0), 3, none⟩,
      ⟨some 45, (.extract (.tmp 38) 1), 29, none⟩,
      ⟨some 8, (.assign (.tmp 44)), 3, none⟩,
      ⟨some 9, (.assign (.tmp 45)), 29, none⟩])
    (.seq (.reg [] [⟨some 46, (.move (.tmp 2)), 29, none⟩,
      ⟨some 47, (.binOp .eql 29 (.tmp 46) (.const (.int .i64 0)) 29), 4, none⟩,
      ⟨some 48, (.move (.tmp 47)), 4, none⟩,
      ⟨some 49, (.move (.tmp 1)), 4, some (48, true)⟩,
      ⟨some 50, (.pick (.tmp 48) (.tmp 49) (.const (.bool false))), 4, none⟩,
      ⟨some 51, (.move (.tmp 50)), 4, none⟩,
      ⟨some 52, (.move (.tmp 4)), 29, some (51, true)⟩,
      ⟨some 53, (.binOp .eql 29 (.tmp 52) (.const (.int .i64 0)) 29), 4, some (51, true)⟩,
      ⟨some 54, (.pick (.tmp 51) (.tmp 53) (.const (.bool false))), 4, none⟩,
      ⟨some 55, (.move (.tmp 54)), 4, none⟩,
      ⟨some 56, (.move (.tmp 3)), 4, some (55, true)⟩,
      ⟨some 57, (.unOp .not 4 (.tmp 56)), 4, some (55, true)⟩,
      ⟨some 58, (.pick (.tmp 55) (.tmp 57) (.const (.bool false))), 4, none⟩,
      ⟨some 59, (.move (.tmp 58)), 4, none⟩,
      ⟨some 60, (.move (.tmp 7)), 29, some (59, true)⟩,
      ⟨some 61, (.binOp .eql 29 (.tmp 60) (.const (.int .i64 0)) 29), 4, some (59, true)⟩,
      ⟨some 62, (.pick (.tmp 59) (.tmp 61) (.const (.bool false))), 4, none⟩,
      ⟨some 63, (.move (.tmp 62)), 4, none⟩,
      ⟨some 64, (.move (.tmp 6)), 4, some (63, true)⟩,
      ⟨some 65, (.pick (.tmp 63) (.tmp 64) (.const (.bool false))), 4, none⟩,
      ⟨some 66, (.move (.tmp 65)), 4, none⟩,
      ⟨some 67, (.move (.tmp 5)), 3, some (66, true)⟩,
      ⟨some 68, (.binOp .eql 3 (.tmp 67) (.const (.int .i64 1)) 3), 4, some (66, true)⟩,
      ⟨some 69, (.pick (.tmp 66) (.tmp 68) (.const (.bool false))), 4, none⟩,
      ⟨some 70, (.move (.tmp 69)), 4, none⟩,
      ⟨some 71, (.move (.tmp 9)), 29, some (70, true)⟩,
      ⟨some 72, (.binOp .eql 29 (.tmp 71) (.const (.int .i64 0)) 29), 4, some (70, true)⟩,
      ⟨some 73, (.pick (.tmp 70) (.tmp 72) (.const (.bool false))), 4, none⟩,
      ⟨some 74, (.move (.tmp 73)), 4, none⟩,
      ⟨some 75, (.move (.tmp 8)), 3, some (74, true)⟩,
      ⟨some 76, (.binOp .eql 3 (.tmp 75) (.const (.int .i64 3)) 3), 4, some (74, true)⟩,
      ⟨some 77, (.pick (.tmp 74) (.tmp 76) (.const (.bool false))), 4, none⟩,
      ⟨some 0, (.assign (.tmp 77)), 4, none⟩])
    .ret))))))
theorem C20 {args : List AV} {r : AV} (hn : args.length ≤ 78) (h : vc Try.prog T [] A20 (Fin T [(.tmp 0)] r) ⟨envOf 0 args, []⟩) : CallP Try.prog 20 args r :=
  callP_of tok mixed Try.func20 (by kernel_rfl) (by kernel_rfl) (by kernel_rfl : Try.f20.ntmps = 78) (by kernel_rfl : Try.f20.body.bind (strip 78 (fun _ => [])) = some A20) hn h

end Go.Proofs.Ytnpkaemlidifgaa
end

section
/- Contracts: claimed readings; the sanity check; what is too long; equal lists. -/
namespace Go.Proofs.Ytnpkaemlidifgaa
open Go.Abs Go
set_option maxRecDepth 20000
set_option maxHeartbeats 2000000
attribute [local irreducible] PreK CondK CallK CallG CallX LoopK
attribute [local simp] avsEq avEq akind teq vkind vEq

/-! ### the law's own -/
theorem sane7_c : CallP Try.prog 20 [] (bv true) := by
  refine C20 (by simp) ?_
  have s1 : Sm [[0, 0], [0, 1], [1, 0], [1, 1]] := ⟨by decide, by decide⟩
  have s2 : Sm [[0, 0], [0, 1], [1, 0]] := ⟨by decide, by decide⟩
  have s3 : Sm [[0], [1]] := ⟨by decide, by decide⟩
  have s4 : Sm [[0], [1], [2]] := ⟨by decide, by decide⟩
  have c1 := Conflict_c _ 0 1 s1
  have c2 := Conflict_c _ 0 1 s2
  have c3 := Fewest_c _ [-1, 0, 0] [1, 2] 0 s3 (by decide) (by decide)
  have c4 := Different_c _ 0 s4
  have e1 : ConfR [[0, 0], [0, 1], [1, 0], [1, 1]] 0 1 = (true, 0) := by kernel_rfl
  have e2 : ConfR [[0, 0], [0, 1], [1, 0]] 0 1 = (false, 0) := by kernel_rfl
  have e3 : FewR [[0], [1]] [-1, 0, 0] [1, 2] 0 = (1, true, 0) := by kernel_rfl
  have e4 : DiffR [[0], [1], [2]] 0 = (3, 0) := by kernel_rfl
  rw [e1] at c1
  rw [e2] at c2
  rw [e3] at c3
  rw [e4] at c4
  simp [A20]
  refine CallX.pure (CallP.weak (by simpa [weakL, weak] using c1)) (by simp) (by simp) ?_
  try simp 
  refine CallX.pure (CallP.weak (by simpa [weakL, weak] using c2)) (by simp) (by simp) ?_
  try simp 
  refine CallX.pure (CallP.weak (by simpa [weakL, weak] using c3)) (by simp) (by simp) ?_
  try simp 
  refine CallX.pure (CallP.weak (by simpa [weakL, weak] using c4)) (by simp) (by simp) ?_
  try simp 
def longT (t : List (List Int)) : Bool := (t.any fun r => decide (50 < r.length)) || decide (50 < t.length)
theorem Long7_c (t : List (List Int)) (h : t.length ≤ big) : CallP Try.prog 18 [rdsV t] (bv (longT t)) := by
  refine C18 (by simp) ?_
  generalize hR : longT t = R
  unfold longT at hR
  simp only [big] at h
  simp [A18]
  refine LoopK.by (ι := Nat) (fun i => ⟨[(3, iv i), (0, rdsV t)], []⟩) (fun i => t.length - i) (fun i => i ≤ t.length ∧ (((t.drop i).any fun r => decide (50 < r.length)) || decide (50 < t.length)) = R) 0 ⟨Nat.zero_le _, hR⟩ (by simp) ?_
  intro i Q' ⟨hi, hc⟩ hq he hr
  try simp 
  refine CondK.intro (fun h1 => ?_) (fun h1 => ?_)
  · simp at h1
    rw [drop_cons t i h1, List.any_cons] at hc
    try simp [h1]
    repeat (refine PreK.intro (by first | omega | (intros; first | omega | (refine ⟨by omega, ?_⟩; simp_all; done) | (simp_all; done) | (simp_all; omega))) fun _ => ?_; (try simp [h1]))
    refine CondK.intro (fun h2 => ?_) (fun h2 => ?_)
    · have e : decide (50 < (el t i).length) = true := by simp at h2; simp; omega
      rw [e] at hc
      simp only [Bool.true_or] at hc
      subst hc
      try simp 
      apply hr
      try simp 
    · have e : decide (50 < (el t i).length) = false := by simp at h2; simp; omega
      rw [e] at hc
      simp only [Bool.false_or] at hc
      repeat (refine PreK.intro (by first | omega | (intros; first | omega | (refine ⟨by omega, ?_⟩; simp_all; done) | (simp_all; done) | (simp_all; omega))) fun _ => ?_; (try simp ))
      exact hq (i + 1) _ ⟨by omega, hc⟩ (by omega) (by simp)
  · simp at h1
    rw [List.drop_eq_nil_of_le (by omega)] at hc
    simp only [List.any_nil, Bool.false_or] at hc
    subst hc
    try simp 
    apply he
    try simp 
    try omega
theorem longT_small {t : List (List Int)} (h : longT t = false) : Sm t ∧ t.length ≤ 50 ∧ ∀ r ∈ t, r.length ≤ 50 := by
  unfold longT at h
  simp only [Bool.or_eq_false_iff, List.any_eq_false, decide_eq_true_eq, decide_eq_false_iff_not] at h
  exact ⟨⟨by omega, fun r hr => by have := h.1 r hr; omega⟩, by omega, fun r hr => by have := h.1 r hr; omega⟩
theorem same7_c (a b : List Int) (ha : a.length ≤ big) : CallP Try.prog 36 [ints a, ints b] (bv (decide (a = b))) := by
  refine C36 (by simp) ?_
  simp only [big] at ha
  generalize hR : decide (a = b) = R
  simp [A36]
  refine CondK.intro (fun h => ?_) (fun h => ?_)
  · simp at h
    have : a ≠ b := fun e => h (by rw [e])
    simp [this] at hR
    simp [hR]
  · simp at h
    try simp 
    refine LoopK.by (fun i : Nat => ⟨[(5, iv i), (0, ints a), (1, ints b)], []⟩) (fun i => a.length - i) (fun i => i ≤ a.length ∧ decide (a.drop i = b.drop i) = R) 0 (by simpa using hR) (by simp) ?_
    intro i Q' ⟨hi, hc⟩ hq he hr
    try simp 
    refine CondK.intro (fun h2 => ?_) (fun h2 => ?_)
    · simp at h2
      have h2b : i < b.length := by omega
      rw [drop_cons a i h2, drop_cons b i h2b] at hc
      try simp [h2, h2b]
      repeat (refine PreK.intro (by first | omega | (intros; first | omega | (refine ⟨by omega, ?_⟩; simp_all; done) | (simp_all; done) | (simp_all; omega))) fun _ => ?_; (try simp [h2, h2b]))
      refine CondK.intro (fun h3 => ?_) (fun h3 => ?_)
      · simp at h3
        simp [h3] at hc
        try simp 
        apply hr
        simp [hc]
      · simp at h3
        simp [h3] at hc
        repeat (refine PreK.intro (by first | omega | (intros; first | omega | (refine ⟨by omega, ?_⟩; simp_all; done) | (simp_all; done) | (simp_all; omega))) fun _ => ?_; (try simp ))
        exact hq (i + 1) _ ⟨by omega, by simpa using hc⟩ (by omega) (by simp)
    · simp at h2
      rw [List.drop_eq_nil_of_le (by omega), List.drop_eq_nil_of_le (by omega)] at hc
      simp at hc
      try simp 
      apply he
      simp [hc]
end Go.Proofs.Ytnpkaemlidifgaa
end

section
/- Contracts: the statements StemmaFewest, StemmaReadings, StemmaChecks, StemmaAparts, StemmaPlaces, StemmaSides, StemmaConflicts, StemmaTotals. -/
namespace Go.Proofs.Ytnpkaemlidifgaa
open Go.Abs Go
set_option maxRecDepth 20000
set_option maxHeartbeats 2000000
attribute [local irreducible] PreK CondK CallK CallG CallX LoopK
attribute [local simp] avsEq avEq akind teq vkind vEq

@[simp] def claimV (c : (List Int × List Int) × Int × List Int) : AV := .agg [ints c.1.1, ints c.1.2, iv c.2.1, ints c.2.2]
end Go.Proofs.Ytnpkaemlidifgaa
end

section
/- Contracts: the statements StemmaSides and StemmaTotals. -/
namespace Go.Proofs.Ytnpkaemlidifgaa
open Go.Abs Go
set_option maxRecDepth 20000
set_option maxHeartbeats 2000000
attribute [local irreducible] PreK CondK CallK CallG CallX LoopK
attribute [local simp] avsEq avEq akind teq vkind vEq

end Go.Proofs.Ytnpkaemlidifgaa
end

section
/- The library's sort of words at this program: where its functions and types stand (written by the kit's tool lay-plain), and its contract. -/
namespace Go.Proofs.Ytnpkaemlidifgaa
open Go.Abs Go Go.Shelf
end Go.Proofs.Ytnpkaemlidifgaa
end

section
/- Functions of the cut as the value layer reads them. (written by gen.py) -/
set_option maxRecDepth 20000
namespace Go.Proofs.Ytnpkaemlidifgaa
open Go.Abs Go

def A88 : ACode :=
  (.seq (.reg [] [⟨some 4, (.assign (.const (.int .i64 0))), 3, none⟩])
    (.seq (.seq (.reg [] [⟨some 9, (.move (.tmp 0)), 23, none⟩,
      ⟨some 10, (.call ⟨(.builtin .len), #[(.tmp 9)], #[23]⟩), 3, none⟩,
      ⟨some 11, (.move (.const (.int .i64 0))), 3, none⟩])
    (.block 0 (.loop (.seq (.reg [] [⟨some 12, (.binOp .lss 3 (.tmp 11) (.tmp 10) 3), 0, none⟩])
    (.seq (.cond (.tmp 12)
    .skip
    (.exit 0))
    (.seq (.block 1 (.seq (.reg [] [⟨some 13, (.move (.tmp 11)), 3, none⟩,
      ⟨some 14, (.indexAddr 23 (.tmp 9) (.tmp 11)), 0, none⟩,
      ⟨some 15, (.load 3 (.tmp 14)), 3, none⟩,
      ⟨some 5, (.assign (.tmp 13)), 3, none⟩,
      ⟨some 6, (.assign (.tmp 15)), 3, none⟩])
    (.seq (.seq (.reg [] [⟨some 16, (.move (.tmp 5)), 3, none⟩,
      ⟨some 17, (.move (.tmp 1)), 23, none⟩,
      ⟨some 18, (.call ⟨(.builtin .len), #[(.tmp 17)], #[23]⟩), 3, none⟩,
      ⟨some 19, (.binOp .geq 3 (.tmp 16) (.tmp 18) 3), 4, none⟩])
    (.cond (.tmp 19)
    (.seq (.reg [] [⟨some 4, (.assign (.const (.int .i64 1))), 3, none⟩])
    .ret)
    .skip))
    (.seq (.reg [] [⟨some 20, (.move (.tmp 1)), 23, none⟩,
      ⟨some 21, (.move (.tmp 5)), 3, none⟩,
      ⟨some 22, (.indexAddr 23 (.tmp 20) (.tmp 21)), 0, none⟩,
      ⟨some 23, (.load 3 (.tmp 22)), 3, none⟩,
      ⟨some 7, (.assign (.tmp 23)), 3, none⟩])
    (.seq (.reg [] [⟨some 24, (.move (.tmp 6)), 3, none⟩,
      ⟨some 25, (.move (.tmp 7)), 3, none⟩,
      ⟨some 26, (.call ⟨(.value (.func 99)), #[(.tmp 24), (.tmp 25)], #[3, 3]⟩), 3, none⟩,
      ⟨some 8, (.assign (.tmp 26)), 3, none⟩])
    (.seq (.reg [] [⟨some 27, (.move (.tmp 8)), 3, none⟩,
      ⟨some 28, (.binOp .neq 3 (.tmp 27) (.const (.int .i64 0)) 3), 4, none⟩])
    (.cond (.tmp 28)
    (.seq (.reg [] [⟨some 29, (.move (.tmp 8)), 3, none⟩,
      ⟨some 4, (.assign (.tmp 29)), 3, none⟩])
    .ret)
    .skip)))))))
    (.reg [] [⟨some 30, (.binOp .add 3 (.tmp 11) (.const (.int .i64 1)) 3), 3, none⟩,
      ⟨some 11, (.move (.tmp 30)), 3, none⟩])))))))
    (.seq (.seq (.reg [] [⟨some 31, (.move (.tmp 0)), 23, none⟩,
      ⟨some 32, (.call ⟨(.builtin .len), #[(.tmp 31)], #[23]⟩), 3, none⟩,
      ⟨some 33, (.move (.tmp 1)), 23, none⟩,
      ⟨some 34, (.call ⟨(.builtin .len), #[(.tmp 33)], #[23]⟩), 3, none⟩,
      ⟨some 35, (.binOp .lss 3 (.tmp 32) (.tmp 34) 3), 4, none⟩])
    (.cond (.tmp 35)
    (.seq (.reg [] [⟨some 4, (.assign (.const (.int .i64 (-1)))), 3, none⟩])
    .ret)
    .skip))
    (.seq (.reg [] [⟨some 4, (.assign (.const (.int .i64 0))), 3, none⟩])
    .ret))))
theorem C88 {args : List AV} {r : AV} (hn : args.length ≤ 36) (h : vc Try.prog T [] A88 (Fin T [(.tmp 4)] r) ⟨envOf 0 args, []⟩) : CallP Try.prog 88 args r :=
  callP_of tok mixed Try.func88 (by kernel_rfl) (by kernel_rfl) (by kernel_rfl : Try.f88.ntmps = 36) (by kernel_rfl : Try.f88.body.bind (strip 36 (fun _ => [])) = some A88) hn h
def A99 : ACode :=
  (.seq (.reg [] [⟨some 4, (.assign (.const (.int .i64 0))), 3, none⟩])
    (.seq (.reg [] [⟨some 7, (.move (.tmp 0)), 3, none⟩,
      ⟨some 8, (.call ⟨(.value (.func 105)), #[(.tmp 7)], #[3]⟩), 4, none⟩,
      ⟨some 5, (.assign (.tmp 8)), 4, none⟩])
    (.seq (.reg [] [⟨some 9, (.move (.tmp 1)), 3, none⟩,
      ⟨some 10, (.call ⟨(.value (.func 105)), #[(.tmp 9)], #[3]⟩), 4, none⟩,
      ⟨some 6, (.assign (.tmp 10)), 4, none⟩])
    (.seq (.seq (.reg [] [⟨some 11, (.move (.tmp 5)), 4, none⟩])
    (.cond (.tmp 11)
    (.seq (.seq (.reg [] [⟨some 12, (.move (.tmp 6)), 4, none⟩])
    (.cond (.tmp 12)
    (.seq (.reg [] [⟨some 4, (.assign (.const (.int .i64 0))), 3, none⟩])
    .ret)
    .skip))
    (.seq (.reg [] [⟨some 4, (.assign (.const (.int .i64 (-1)))), 3, none⟩])
    .ret))
    .skip))
    (.seq (.seq (.reg [] [⟨some 13, (.move (.tmp 6)), 4, none⟩])
    (.cond (.tmp 13)
    (.seq (.reg [] [⟨some 4, (.assign (.const (.int .i64 1))), 3, none⟩])
    .ret)
    .skip))
    (.seq (.seq (.reg [] [⟨some 14, (.move (.tmp 0)), 3, none⟩,
      ⟨some 15, (.move (.tmp 1)), 3, none⟩,
      ⟨some 16, (.binOp .lss 3 (.tmp 14) (.tmp 15) 3), 4, none⟩])
    (.cond (.tmp 16)
    (.seq (.reg [] [⟨some 4, (.assign (.const (.int .i64 (-1)))), 3, none⟩])
    .ret)
    .skip))
    (.seq (.seq (.reg [] [⟨some 17, (.move (.tmp 0)), 3, none⟩,
      ⟨some 18, (.move (.tmp 1)), 3, none⟩,
      ⟨some 19, (.binOp .gtr 3 (.tmp 17) (.tmp 18) 3), 4, none⟩])
    (.cond (.tmp 19)
    (.seq (.reg [] [⟨some 4, (.assign (.const (.int .i64 1))), 3, none⟩])
    .ret)
    .skip))
    (.seq (.reg [] [⟨some 4, (.assign (.const (.int .i64 0))), 3, none⟩])
    .ret))))))))
theorem C99 {args : List AV} {r : AV} (hn : args.length ≤ 20) (h : vc Try.prog T [] A99 (Fin T [(.tmp 4)] r) ⟨envOf 0 args, []⟩) : CallP Try.prog 99 args r :=
  callP_of tok mixed Try.func99 (by kernel_rfl) (by kernel_rfl) (by kernel_rfl : Try.f99.ntmps = 20) (by kernel_rfl : Try.f99.body.bind (strip 20 (fun _ => [])) = some A99) hn h
def A105 : ACode :=
  (.seq (.reg [] [⟨some 2, (.assign (.const (.bool false))), 4, none⟩])
    (.seq (.reg [] [⟨some 3, (.move (.tmp 0)), 3, none⟩,
      ⟨some 4, (.move (.tmp 0)), 3, none⟩,
      ⟨some 5, (.binOp .neq 3 (.tmp 3) (.tmp 4) 3), 4, none⟩,
      ⟨some 2, (.assign (.tmp 5)), 4, none⟩])
    .ret))
theorem C105 {args : List AV} {r : AV} (hn : args.length ≤ 6) (h : vc Try.prog T [] A105 (Fin T [(.tmp 2)] r) ⟨envOf 0 args, []⟩) : CallP Try.prog 105 args r :=
  callP_of tok mixed Try.func105 (by kernel_rfl) (by kernel_rfl) (by kernel_rfl : Try.f105.ntmps = 6) (by kernel_rfl : Try.f105.body.bind (strip 6 (fun _ => [])) = some A105) hn h

end Go.Proofs.Ytnpkaemlidifgaa
end

section
/- Contracts: comparing and sorting words. -/
namespace Go.Proofs.Ytnpkaemlidifgaa
open Go.Abs Go
set_option maxRecDepth 20000
set_option maxHeartbeats 2000000
attribute [local irreducible] PreK CondK CallK CallG CallX LoopK
attribute [local simp] avsEq avEq akind teq vkind vEq

theorem isNaN_c (a : Int) : CallP Try.prog 105 [iv a] (bv false) := by
  refine C105 (by simp) ?_
  simp [A105]
def cmpI (a b : Int) : Int := if a < b then -1 else if b < a then 1 else 0
theorem cmpInt_c (a b : Int) : CallP Try.prog 99 [iv a, iv b] (iv (cmpI a b)) := by
  refine C99 (by simp) ?_
  simp [A99]
  try simp 
  repeat' (first
    | (refine CallX.pure (isNaN_c a) (by simp) (by simp) ?_; try simp )
    | (refine CallK.intro (isNaN_c a) (by simp) (by simp) ?_; try simp )
    | (refine CallG.intro (fun _ => isNaN_c a) (by simp) (by simp) ?_; try simp )
    | (refine CallX.pure (isNaN_c b) (by simp) (by simp) ?_; try simp )
    | (refine CallK.intro (isNaN_c b) (by simp) (by simp) ?_; try simp )
    | (refine CallG.intro (fun _ => isNaN_c b) (by simp) (by simp) ?_; try simp )
    | ((with_reducible refine PreK.intro ?_ ?_); (next => (first | omega | (intros; first | omega | (refine ⟨by omega, ?_⟩; repeat (first | assumption | constructor)) | assumption))); intro _; try simp )
    | fail)
  refine CondK.intro (fun h1 => ?_) (fun h1 => ?_)
  · simp at h1
  · try simp 
    repeat' (first
      | ((with_reducible refine PreK.intro ?_ ?_); (next => (first | omega | (intros; first | omega | (refine ⟨by omega, ?_⟩; repeat (first | assumption | constructor)) | assumption))); intro _; try simp )
      | fail)
    refine CondK.intro (fun h2 => ?_) (fun h2 => ?_)
    · simp at h2
    · try simp 
      repeat' (first
        | ((with_reducible refine PreK.intro ?_ ?_); (next => (first | omega | (intros; first | omega | (refine ⟨by omega, ?_⟩; repeat (first | assumption | constructor)) | assumption))); intro _; try simp )
        | fail)
      refine CondK.intro (fun h3 => ?_) (fun h3 => ?_)
      · simp at h3
        simp [cmpI, h3]
      · simp at h3
        try simp 
        repeat' (first
          | ((with_reducible refine PreK.intro ?_ ?_); (next => (first | omega | (intros; first | omega | (refine ⟨by omega, ?_⟩; repeat (first | assumption | constructor)) | assumption))); intro _; try simp )
          | fail)
        refine CondK.intro (fun h4 => ?_) (fun h4 => ?_)
        · simp at h4
          simp [cmpI, h4, show ¬ a < b by omega]
        · simp at h4
          simp [cmpI, show ¬ a < b by omega, show ¬ b < a by omega]
theorem cmpW_nil : cmpW [] [] = 0 := rfl
theorem cmpW_short (y : Int) (m : List Int) : cmpW [] (y :: m) = -1 := by simp [cmpW, bef]
theorem cmpW_long (x : Int) (l : List Int) : cmpW (x :: l) [] = 1 := by simp [cmpW, bef]
theorem cmpW_cons (x y : Int) (l m : List Int) : cmpW (x :: l) (y :: m) = if cmpI x y ≠ 0 then cmpI x y else cmpW l m := by
  unfold cmpW cmpI
  by_cases h : x = y
  · subst h; simp [bef]
  · by_cases h2 : x < y
    · simp [bef, h, h2]
    · have : y < x := by omega
      simp [bef, h, h2, this]
theorem Compare_c (a b : List Int) (ha : a.length ≤ big) (hb : b.length ≤ big) : CallP Try.prog 88 [ints a, ints b] (iv (cmpW a b)) := by
  refine C88 (by simp) ?_
  generalize hR : cmpW a b = R
  simp [A88]
  simp only [big] at ha hb
  refine LoopK.by (fun i : Nat => ⟨[(11, iv i), (10, iv a.length), (9, ints a), (0, ints a), (1, ints b)], []⟩) (fun i => a.length - i) (fun i => i ≤ a.length ∧ i ≤ b.length ∧ cmpW (a.drop i) (b.drop i) = R) 0 (by simpa using hR) (by simp) ?_
  intro i Q' ⟨hi, hib, hc⟩ hq he hr
  try simp 
  refine CondK.intro (fun h1 => ?_) (fun h1 => ?_)
  · simp at h1
    rw [drop_cons a i h1] at hc
    try simp [h1]
    repeat' (first
      | ((with_reducible refine PreK.intro ?_ ?_); (next => (first | omega | (intros; first | omega | (refine ⟨by omega, ?_⟩; repeat (first | assumption | constructor)) | assumption))); intro _; try simp [h1])
      | fail)
    refine CondK.intro (fun h2 => ?_) (fun h2 => ?_)
    · simp at h2
      rw [List.drop_eq_nil_of_le (show b.length ≤ i by omega), cmpW_long] at hc
      try simp 
      apply hr
      simp [hc]
    · simp at h2
      rw [drop_cons b i (by omega), cmpW_cons] at hc
      try simp [h2, h1]
      repeat' (first
        | (refine CallX.pure (cmpInt_c (el a i) (el b i)) (by simp) (by simp) ?_; try simp [h2, h1])
        | (refine CallK.intro (cmpInt_c (el a i) (el b i)) (by simp) (by simp) ?_; try simp [h2, h1])
        | (refine CallG.intro (fun _ => cmpInt_c (el a i) (el b i)) (by simp) (by simp) ?_; try simp [h2, h1])
        | ((with_reducible refine PreK.intro ?_ ?_); (next => (first | omega | (intros; first | omega | (refine ⟨by omega, ?_⟩; repeat (first | assumption | constructor)) | assumption))); intro _; try simp [h2, h1])
        | fail)
      refine CondK.intro (fun h3 => ?_) (fun h3 => ?_)
      · simp at h3
        rw [if_pos h3] at hc
        try simp 
        apply hr
        simp [hc]
      · simp at h3
        rw [if_neg (by simpa using h3)] at hc
        try simp 
        repeat' (first
          | ((with_reducible refine PreK.intro ?_ ?_); (next => (first | omega | (intros; first | omega | (refine ⟨by omega, ?_⟩; repeat (first | assumption | constructor)) | assumption))); intro _; try simp )
          | fail)
        exact hq (i + 1) _ ⟨by omega, by omega, hc⟩ (by omega) (by simp)
  · simp at h1
    rw [List.drop_eq_nil_of_le (by omega)] at hc
    try simp 
    apply he
    try simp 
    refine CondK.intro (fun h2 => ?_) (fun h2 => ?_)
    · simp at h2
      rw [drop_cons b i (by omega), cmpW_short] at hc
      simp [hc]
    · simp at h2
      rw [List.drop_eq_nil_of_le (by omega), cmpW_nil] at hc
      simp [hc]

end Go.Proofs.Ytnpkaemlidifgaa
end

section
/- Contracts: the greatest set, by both ways; the statement StemmaGreatest. -/
namespace Go.Proofs.Ytnpkaemlidifgaa
open Go.Abs Go
set_option maxRecDepth 20000
set_option maxHeartbeats 2000000
attribute [local irreducible] PreK CondK CallK CallG CallX LoopK
attribute [local simp] avsEq avEq akind teq vkind vEq

theorem indexFunc_in (l : List Int) (hl : l.length ≤ big) (f : FuncId) (cap : List AV) (p : Int → Bool) (hp : ∀ x ∈ l, CallP Try.prog f (iv x :: cap) (bv (p x))) (h1 : ∀ m, snapL m cap = cap) (h2 : AV.refsL cap = []) (h3 : ∀ m, snapOKL m cap) :
    CallP Try.prog 98 [ints l, .fn f [] cap] (iv (idxF p 0 l)) := by
  refine C98 (by simp) ?_
  generalize hR : idxF p 0 l = R
  simp [A98]
  refine LoopK.by (fun i : Nat => ⟨[(8, iv i), (7, iv l.length), (0, ints l), (1, .fn f [] cap)], []⟩) (fun i => l.length - i) (fun i => i ≤ l.length ∧ idxF p i (l.drop i) = R) 0 (by simpa using hR) (by simp [h2]) ?_
  intro i Q' ⟨hi, hc⟩ hq he hr
  try simp 
  refine CondK.intro (fun h => ?_) (fun h => ?_)
  · simp at h
    rw [drop_cons l i h] at hc
    have hpi := hp _ (el_mem_of l i h)
    simp [h]
    refine CallX.pure (by simpa [h1] using hpi) (by simp [h3]) (by simp) ?_
    try simp 
    refine CondK.intro (fun h4 => ?_) (fun h4 => ?_)
    · simp [idxF, h4] at hc
      try simp 
      apply hr
      simp [hc]
    · simp [idxF, h4] at hc
      simp only [big] at hl
      repeat (refine PreK.intro (by first | omega | (intros; first | omega | (refine ⟨by omega, ?_⟩; simp_all; done) | (simp_all; done) | (simp_all; omega))) fun _ => ?_; (try simp ))
      exact hq (i + 1) _ ⟨by omega, hc⟩ (by omega) (by simp [h2])
  · simp at h
    rw [List.drop_eq_nil_of_le (by omega)] at hc
    simp [idxF] at hc
    try simp 
    apply he
    simp [hc]
theorem containsFunc_in (l : List Int) (hl : l.length ≤ big) (f : FuncId) (cap : List AV) (p : Int → Bool) (hp : ∀ x ∈ l, CallP Try.prog f (iv x :: cap) (bv (p x))) (h1 : ∀ m, snapL m cap = cap) (h2 : AV.refsL cap = []) (h3 : ∀ m, snapOKL m cap) :
    CallP Try.prog 69 [ints l, .fn f [] cap] (bv (l.any p)) := by
  refine C69 (by simp) ?_
  rw [← idxF_any p l 0]
  simp [A69]
  refine CallX.pure (by simpa [h1] using indexFunc_in l hl f cap p hp h1 h2 h3) (by simp [h3]) (by simp) ?_
  simp
theorem great1_c (t : List (List Int)) (p q : Nat) (hp : p < wid t) (hq : q < wid t) (hr : Rds t) : CallP Try.prog 87 [iv q, .ipt (rdsV t) 0, .ipt (iv p) 0] (bv (confM t p q)) := by
  refine C87 (by simp) ?_
  simp [A87]
  try simp 
  repeat' (first
    | (refine CallX.pure (conflict_c t p q hp hq hr) (by simp) (by simp) ?_; try simp )
    | (refine CallK.intro (conflict_c t p q hp hq hr) (by simp) (by simp) ?_; try simp )
    | (refine CallG.intro (fun _ => conflict_c t p q hp hq hr) (by simp) (by simp) ?_; try simp )
    | ((with_reducible refine PreK.intro ?_ ?_); (next => (first | omega | (intros; first | omega | (refine ⟨by omega, ?_⟩; repeat (first | assumption | constructor)) | assumption))); intro _; try simp )
    | fail)
def ofN (l : List Nat) : List Int := l.map Int.ofNat
theorem ofN_len (l : List Nat) : (ofN l).length = l.length := by simp [ofN]
theorem ofN_snoc (l : List Nat) (p : Nat) : ofN (l ++ [p]) = ofN l ++ [(p : Int)] := by simp [ofN]
theorem ofN_any (t : List (List Int)) (p : Nat) (l : List Nat) : ((ofN l).any fun x => confM t p x.toNat) = l.any fun q => confM t p q := by
  unfold ofN
  rw [List.any_map]
  congr 1
def GreatR (t : List (List Int)) : List Int × Int := if vErr t ≠ 0 then ([], vErr t) else (greatM t, 0)
theorem Greatest_c (t : List (List Int)) (h : Sm t) : CallP Try.prog 56 [rdsV t] (.tup [ints (GreatR t).1, iv (GreatR t).2]) := by
  refine C56 (by simp) ?_
  simp [A56]
  try simp 
  repeat' (first
    | (refine CallX.pure (Validate_c t h) (by simp) (by simp) ?_; try simp )
    | (refine CallK.intro (Validate_c t h) (by simp) (by simp) ?_; try simp )
    | (refine CallG.intro (fun _ => Validate_c t h) (by simp) (by simp) ?_; try simp )
    | ((with_reducible refine PreK.intro ?_ ?_); (next => (first | omega | (intros; first | omega | (refine ⟨by omega, ?_⟩; repeat (first | assumption | constructor)) | assumption))); intro _; try simp )
    | fail)
  refine CondK.intro (fun h1 => ?_) (fun h1 => ?_)
  · simp at h1
    simp [GreatR, h1]
  · simp at h1
    have hr := vErr_zero h1
    have e0 : 0 < t.length := hr.pos
    have hwd : (el t 0).length = wid t := rfl
    have hw6 := hr.w6
    have hS : GreatR t = (greatM t, 0) := by simp [GreatR, h1]
    rw [hS]
    generalize hR : greatM t = R
    unfold greatM at hR
    have hP64 : 2 ^ wid t ≤ 64 := by
      have : 2 ^ wid t ≤ 2 ^ 6 := Nat.pow_le_pow_right (by omega) hw6
      omega
    have hPc : (2 : Int) ^ wid t = ((2 ^ wid t : Nat) : Int) := by simp
    have hw62 : (wid t : Int) ≤ 62 := by omega
    generalize hPP : 2 ^ wid t = P at hR hP64 hPc
    try simp [e0, hwd, hPc, hw62]
    repeat (refine PreK.intro (by first | omega | (intros; first | omega | (refine ⟨by omega, ?_⟩; simp_all; done) | (simp_all; done) | (simp_all; omega))) fun _ => ?_; (try simp [e0, hwd, hPc, hw62]))
    refine LoopK.frz 5 (b := ⟨1, [], 1, false⟩) (by simp) (by simp) ?_
    try simp 
    refine LoopK.byF (ι := Nat × List Int) (fun x => ⟨[(22, iv x.1), (21, iv P), (5, ints x.2), (1, .pt 1 1 0 0)], [(1, some ⟨1, [rdsV t], 1, true⟩)]⟩) (fun x => P - x.1)
      (fun x => x.1 ≤ P ∧ x.2.length ≤ 6 ∧ bestL x.2 (goodsF t (wid t) x.1 (P - x.1)) = R) (0, []) ⟨Nat.zero_le _, by simp, by simpa using hR⟩ (by simp) ?_
    intro ⟨b, cur⟩ Q' ⟨hbP, hcl, hc⟩ hq he hr' hfz
    dsimp only at hbP hcl hc
    try simp 
    refine CondK.intro (fun h2 => ?_) (fun h2 => ?_)
    · simp at h2
      rw [show P - b = (P - (b + 1)) + 1 by omega, goodsF] at hc
      have hcs := (cand_spec t (wid t) b).1
      have hcl2 : (candM t (wid t) b).1.length ≤ 6 := by
        rw [hcs]
        have := List.length_filter_le (bitOn b) (List.range' 0 (wid t))
        rw [List.length_range'] at this
        omega
      have hcw : ∀ q ∈ (candM t (wid t) b).1, q < wid t := by
        intro q hq2
        rw [hcs, List.mem_filter, List.mem_range'_1] at hq2
        omega
      have hcM : takesF t b 0 (wid t) ([], true) = candM t (wid t) b := rfl
      generalize candM t (wid t) b = C at hc hcl2 hcM hcw
      try simp [e0, hwd]
      repeat (refine PreK.intro (by first | omega | (intros; first | omega | (refine ⟨by omega, ?_⟩; simp_all; done) | (simp_all; done) | (simp_all; omega))) fun _ => ?_; (try simp [e0, hwd]))
      refine LoopK.by (ι := Nat × Nat × List Nat × Bool) (fun x => ⟨[(29, iv x.1), (28, iv (wid t)), (22, iv b), (21, iv P), (6, iv b), (5, ints cur), (1, .pt 1 1 0 0), (8, bv x.2.2.2), (7, .sl 7 x.2.1 0 x.2.2.1.length)],
        [(1, some ⟨1, [rdsV t], 1, true⟩), (7, some ⟨1, (ofN x.2.2.1).map iv, x.2.1, false⟩)]⟩) (fun x => wid t - x.1)
        (fun x => x.1 ≤ wid t ∧ x.2.2.1.length ≤ x.1 ∧ (∀ q ∈ x.2.2.1, q < wid t) ∧ takesF t b x.1 (wid t - x.1) (x.2.2.1, x.2.2.2) = C) (0, 1, [], true) ⟨Nat.zero_le _, by simp, by simp, by simpa using hcM⟩ (by simp [ofN]) ?_
      intro ⟨p, v, l, good⟩ Q2 ⟨hpw, hll, hlw, hc2⟩ hq2 he2 hr2
      dsimp only at hpw hll hlw hc2
      try simp 
      refine CondK.intro (fun h3 => ?_) (fun h3 => ?_)
      · simp at h3
        have h3' : p < wid t := by omega
        rw [show wid t - p = (wid t - (p + 1)) + 1 by omega, takesF] at hc2
        obtain ⟨D, hD⟩ : ∃ D : Nat, D = b / 2 ^ p := ⟨_, rfl⟩
        have hfd : (b : Int).fdiv ((2 : Int) ^ p) = (D : Int) := by
          rw [show ((2 : Int) ^ p) = ((2 ^ p : Nat) : Int) by simp, hD]
          exact (Int.ofNat_fdiv b (2 ^ p)).symm
        have hdb : D ≤ 64 := by rw [hD]; exact Nat.le_trans (Nat.div_le_self _ _) (by omega)
        have hdl : (D : Int) < 4611686018427387904 := by omega
        have hbit : bitOn b p = decide (D % 2 = 1) := by rw [hD]; rfl
        have hlen := ofN_len l
        have htk : List.take l.length (List.map iv (ofN l)) = List.map iv (ofN l) := List.take_of_length_le (by simp [hlen])
        by_cases hE : D % 2 = 1
        · have hand : D &&& 1 = 1 := by rw [Nat.and_one_is_mod, hE]
          rw [hbit, decide_eq_true hE, if_pos rfl] at hc2
          have hsd := side_c t p h3' hr
          have hany := ofN_any t p l
          have hcf := containsFunc_in (ofN l) (sbig (by omega)) 87 [.ipt (rdsV t) 0, .ipt (iv p) 0] (fun x => confM t p x.toNat) (fun x hx => by
            obtain ⟨q, hq', rfl⟩ := List.mem_map.1 hx
            exact great1_c t p q h3' (hlw q hq') hr) (by simp [snapL, snap]) (by simp [AV.refsL, AV.refs]) (by simp [snapOKL, snapOK])
          rw [hany] at hcf
          have htake : takeP t p (l, good) = (l ++ [p], good && splits t p && !l.any fun q => confM t p q) := rfl
          rw [htake] at hc2
          have hsp : decide (diffN (colM t p) = 2) = splits t p := rfl
          rw [hsp] at hsd
          generalize splits t p = sp at hsd hc2
          generalize (l.any fun q => confM t p q) = cf at hcf hc2
          try simp [h3', hfd, hdl, hand]
          repeat (refine PreK.intro (by first | omega | (intros; first | omega | (refine ⟨by omega, ?_⟩; simp_all; done) | (simp_all; done) | (simp_all; omega))) fun _ => ?_; (try simp [h3', hfd, hdl, hand]))
          refine CondK.ff ?_
          try simp 
          try simp 
          repeat' (first
            | (refine CallX.pure (hsd) (by simp) (by simp) ?_; try simp )
            | (refine CallK.intro (hsd) (by simp) (by simp) ?_; try simp )
            | (refine CallG.intro (fun _ => hsd) (by simp) (by simp) ?_; try simp )
            | ((with_reducible refine PreK.intro ?_ ?_); (next => (first | omega | (intros; first | omega | (refine ⟨by omega, ?_⟩; repeat (first | assumption | constructor)) | assumption))); intro _; try simp )
            | fail)
          cases good with
          | true =>
            cases sp with
            | true =>
              try simp [htk]
              repeat (refine PreK.intro (by first | omega | (intros; first | omega | (refine ⟨by omega, ?_⟩; simp_all; done) | (simp_all; done) | (simp_all; omega))) fun _ => ?_; (try simp [htk]))
              refine CallG.intro (fun _ => by simpa [htk] using hcf) (by simp [hlen]) (by simp) ?_
              try simp [hlen]
              repeat (refine PreK.intro (by first | omega | (intros; first | omega | (refine ⟨by omega, ?_⟩; simp_all; done) | (simp_all; done) | (simp_all; omega))) fun _ => ?_; (try simp [hlen]))
              refine hq2 (p + 1, v + 1, l ++ [p], !cf) _ ⟨by dsimp only; omega, by simp; omega, fun q hqm => ?_, by simpa using hc2⟩ (by dsimp only; omega) (by simp [ofN_snoc, htk])
              rcases List.mem_append.1 hqm with hqm | hqm
              · exact hlw q hqm
              · rw [List.mem_singleton] at hqm; rw [hqm]; exact h3'
            | false =>
              try simp [htk]
              repeat (refine PreK.intro (by first | omega | (intros; first | omega | (refine ⟨by omega, ?_⟩; simp_all; done) | (simp_all; done) | (simp_all; omega))) fun _ => ?_; (try simp [htk]))
              refine CallG.intro (r := bv true) (fun hh => by cases hh) (by simp) (by simp) ?_
              try simp [hlen]
              repeat (refine PreK.intro (by first | omega | (intros; first | omega | (refine ⟨by omega, ?_⟩; simp_all; done) | (simp_all; done) | (simp_all; omega))) fun _ => ?_; (try simp [hlen]))
              refine hq2 (p + 1, v + 1, l ++ [p], false) _ ⟨by dsimp only; omega, by simp; omega, fun q hqm => ?_, by simpa using hc2⟩ (by dsimp only; omega) (by simp [ofN_snoc, htk])
              rcases List.mem_append.1 hqm with hqm | hqm
              · exact hlw q hqm
              · rw [List.mem_singleton] at hqm; rw [hqm]; exact h3'
          | false =>
            try simp [htk]
            repeat (refine PreK.intro (by first | omega | (intros; first | omega | (refine ⟨by omega, ?_⟩; simp_all; done) | (simp_all; done) | (simp_all; omega))) fun _ => ?_; (try simp [htk]))
            refine CallG.intro (r := bv true) (fun hh => by cases hh) (by simp) (by simp) ?_
            try simp [hlen]
            repeat (refine PreK.intro (by first | omega | (intros; first | omega | (refine ⟨by omega, ?_⟩; simp_all; done) | (simp_all; done) | (simp_all; omega))) fun _ => ?_; (try simp [hlen]))
            refine hq2 (p + 1, v + 1, l ++ [p], false) _ ⟨by dsimp only; omega, by simp; omega, fun q hqm => ?_, by simpa using hc2⟩ (by dsimp only; omega) (by simp [ofN_snoc, htk])
            rcases List.mem_append.1 hqm with hqm | hqm
            · exact hlw q hqm
            · rw [List.mem_singleton] at hqm; rw [hqm]; exact h3'
        · have hand : D &&& 1 = 0 := by rw [Nat.and_one_is_mod]; omega
          rw [hbit, decide_eq_false hE, if_neg (by simp)] at hc2
          try simp [h3', hfd, hdl, hand]
          repeat (refine PreK.intro (by first | omega | (intros; first | omega | (refine ⟨by omega, ?_⟩; simp_all; done) | (simp_all; done) | (simp_all; omega))) fun _ => ?_; (try simp [h3', hfd, hdl, hand]))
          refine CondK.tt ?_
          try simp 
          repeat (refine PreK.intro (by first | omega | (intros; first | omega | (refine ⟨by omega, ?_⟩; simp_all; done) | (simp_all; done) | (simp_all; omega))) fun _ => ?_; (try simp ))
          exact hq2 (p + 1, v, l, good) _ ⟨by dsimp only; omega, by dsimp only; omega, hlw, hc2⟩ (by dsimp only; omega) (by simp)
      · simp at h3
        have : p = wid t := by omega
        subst this
        simp only [Nat.sub_self, takesF] at hc2
        subst hc2
        dsimp only at hc hcl2
        have hlen := ofN_len l
        have htk : List.take l.length (List.map iv (ofN l)) = List.map iv (ofN l) := List.take_of_length_le (by simp [hlen])
        have hcmp := Compare_c (ofN l) cur (sbig (by omega)) (sbig (by omega))
        have hcmp0 : cmpW (ofN l) cur < 0 ↔ bef (ofN l) cur = true := by
          unfold cmpW
          by_cases e : ofN l = cur
          · rw [if_pos e, e, bef_irr]; simp
          · rw [if_neg e]
            cases bef (ofN l) cur <;> simp
        have hbt : better (ofN l) cur = (decide (cur.length < l.length) || (decide (l.length = cur.length) && bef (ofN l) cur)) := by unfold better; rw [hlen]
        have hq3 := fun x : List Int => hq (b + 1, x)
        try simp 
        apply he2
        try simp 
        refine CallG.intro (fun _ => by simpa [htk] using hcmp) (by simp [hlen]) (by simp) ?_
        try simp 
        refine PreK.intro (fun g1 g2 => ⟨fun g3 => ⟨⟨g1, g2⟩, g3⟩, g1, g2⟩) fun _ => ?_
        try simp 
        repeat (refine PreK.intro (by first | omega | (intros; first | omega | (refine ⟨by omega, ?_⟩; simp_all; done) | (simp_all; done) | (simp_all; omega))) fun _ => ?_; (try simp ))
        refine CondK.intro (fun h5 => ?_) (fun h5 => ?_)
        · have hg : good = true ∧ better (ofN l) cur = true := by
            rw [hbt]
            simp only [Bool.and_eq_true, Bool.or_eq_true, decide_eq_true_eq] at h5 ⊢
            rcases h5 with ⟨g1, g2 | ⟨g2, g3⟩⟩
            · exact ⟨g1, .inl g2⟩
            · exact ⟨g1, .inr ⟨by omega, hcmp0.1 g3⟩⟩
          rw [hg.1] at hc
          simp only [if_true, bestL] at hc
          rw [show (List.map Int.ofNat l) = ofN l from rfl, if_pos hg.2] at hc
          try simp [htk]
          repeat (refine PreK.intro (by first | omega | (intros; first | omega | (refine ⟨by omega, ?_⟩; simp_all; done) | (simp_all; done) | (simp_all; omega))) fun _ => ?_; (try simp [htk]))
          refine hfz 7 ⟨1, (ofN l).map iv, v, false⟩ _ (by simp) (by simp) ?_
          refine hq3 (ofN l) _ ⟨by dsimp only; omega, by dsimp only; omega, hc⟩ (by dsimp only; omega) (by simp [htk, hlen])
        · have hg : good = false ∨ better (ofN l) cur = false := by
            rw [hbt]
            cases good with
            | false => exact .inl rfl
            | true =>
              right
              simp only [Bool.true_and, Bool.or_eq_false_iff, Bool.and_eq_false_imp, decide_eq_true_eq, decide_eq_false_iff_not] at h5 ⊢
              refine ⟨h5.1, fun g2 => ?_⟩
              rw [← Bool.not_eq_true, ← hcmp0]
              exact h5.2 (by omega)
          have hc3 : bestL cur (goodsF t (wid t) (b + 1) (P - (b + 1))) = R := by
            rcases hg with hg | hg
            · rw [hg] at hc; simpa using hc
            · cases good with
              | false => simpa using hc
              | true =>
                simp only [if_true, bestL] at hc
                rw [show (List.map Int.ofNat l) = ofN l from rfl, hg, if_neg (by simp)] at hc
                exact hc
          repeat (refine PreK.intro (by first | omega | (intros; first | omega | (refine ⟨by omega, ?_⟩; simp_all; done) | (simp_all; done) | (simp_all; omega))) fun _ => ?_; (try simp ))
          exact hq3 cur _ ⟨by dsimp only; omega, hcl, hc3⟩ (by dsimp only; omega) (by simp)
    · simp at h2
      have : b = P := by omega
      subst this
      simp only [Nat.sub_self, goodsF, bestL] at hc
      subst hc
      try simp 
      apply he
      try simp 
/-! ### the document's -/
theorem before7_c (a b : List Int) (ha : a.length ≤ 1000) : CallP Try.prog 89 [ints a, ints b] (bv (bef a b)) := by
  refine C89 (by simp) ?_
  generalize hR : bef a b = R
  simp [A89]
  refine LoopK.by (fun i : Nat => ⟨[(5, iv i), (0, ints a), (1, ints b)], []⟩) (fun i => a.length - i) (fun i => i ≤ a.length ∧ i ≤ b.length ∧ bef (a.drop i) (b.drop i) = R) 0 ⟨Nat.zero_le _, Nat.zero_le _, by simpa using hR⟩ (by simp) ?_
  intro i Q' ⟨hi, hib, hc⟩ hq he hr
  by_cases h1 : i < a.length
  · by_cases h2 : i < b.length
    · rw [drop_cons a i h1, drop_cons b i h2, bef] at hc
      try simp [h1, h2]
      repeat (refine PreK.intro (by first | omega | (intros; first | omega | (refine ⟨by omega, ?_⟩; simp_all; done) | (simp_all; done) | (simp_all; omega))) fun _ => ?_; (try simp [h1, h2]))
      refine CondK.tt ?_
      try simp 
      try simp [h1, h2]
      repeat (refine PreK.intro (by first | omega | (intros; first | omega | (refine ⟨by omega, ?_⟩; simp_all; done) | (simp_all; done) | (simp_all; omega))) fun _ => ?_; (try simp [h1, h2]))
      refine CondK.intro (fun h3 => ?_) (fun h3 => ?_)
      · simp at h3
        rw [if_neg h3] at hc
        subst hc
        try simp [h1, h2]
        repeat (refine PreK.intro (by first | omega | (intros; first | omega | (refine ⟨by omega, ?_⟩; simp_all; done) | (simp_all; done) | (simp_all; omega))) fun _ => ?_; (try simp [h1, h2]))
        apply hr
        try simp 
      · simp at h3
        rw [if_pos h3] at hc
        repeat (refine PreK.intro (by first | omega | (intros; first | omega | (refine ⟨by omega, ?_⟩; simp_all; done) | (simp_all; done) | (simp_all; omega))) fun _ => ?_; (try simp ))
        exact hq (i + 1) _ ⟨by omega, by omega, hc⟩ (by omega) (by simp)
    · rw [List.drop_eq_nil_of_le (show b.length ≤ i by omega)] at hc
      have e : R = false := by rw [← hc]; cases a.drop i <;> rfl
      subst e
      try simp [h1, h2]
      repeat (refine PreK.intro (by first | omega | (intros; first | omega | (refine ⟨by omega, ?_⟩; simp_all; done) | (simp_all; done) | (simp_all; omega))) fun _ => ?_; (try simp [h1, h2]))
      refine CondK.ff ?_
      try simp 
      apply he
      try simp 
      omega
  · rw [List.drop_eq_nil_of_le (show a.length ≤ i by omega)] at hc
    have hil : i = a.length := by omega
    try simp [h1]
    repeat (refine PreK.intro (by first | omega | (intros; first | omega | (refine ⟨by omega, ?_⟩; simp_all; done) | (simp_all; done) | (simp_all; omega))) fun _ => ?_; (try simp [h1]))
    refine CondK.ff ?_
    try simp 
    apply he
    by_cases h2 : i < b.length
    · rw [drop_cons b i h2, bef] at hc
      subst hc
      try simp 
      omega
    · rw [List.drop_eq_nil_of_le (show b.length ≤ i by omega), bef] at hc
      subst hc
      try simp 
      omega
end Go.Proofs.Ytnpkaemlidifgaa
end

section
/- PURSE -/
/- Contracts: the greatest set in the document; the statement StemmaGreatest. -/
namespace Go.Proofs.Ytnpkaemlidifgaa
open Go.Abs Go
set_option maxRecDepth 20000
set_option maxHeartbeats 8000000
attribute [local irreducible] PreK CondK CallK CallG CallX LoopK
attribute [local simp] avsEq avEq akind teq vkind vEq

theorem bestL_append : ∀ (l m : List (List Int)) (b : List Int), bestL b (l ++ m) = bestL (bestL b l) m
  | [], m, b => rfl
  | x :: l, m, b => by simp only [List.cons_append, bestL]; exact bestL_append l m _
theorem moreF_len (t : List (List Int)) (p : Nat) : ∀ l : List (List Int), (moreF t p l).length ≤ l.length
  | [] => Nat.le_refl 0
  | s :: l => by
    have := moreF_len t p l
    rw [moreF]
    split
    · simp; omega
    · simp; omega
structure SetsIn (w p : Nat) (S : List (List Int)) : Prop where
  len : S.length ≤ 2 ^ p
  pos : 0 < S.length
  els : ∀ s ∈ S, s.length ≤ p ∧ ∀ x ∈ s, ∃ q : Nat, x = (q : Int) ∧ q < w
theorem SetsIn.step {w p : Nat} {S : List (List Int)} (h : SetsIn w p S) (t : List (List Int)) (hp : p < w) : SetsIn w (p + 1) (S ++ moreF t p S.reverse) := by
  have h1 := h.len
  have h2 := moreF_len t p S.reverse
  rw [List.length_reverse] at h2
  refine ⟨by rw [List.length_append, Nat.pow_succ]; omega, by have := h.pos; simp; omega, fun s hs => ?_⟩
  rcases List.mem_append.1 hs with hs | hs
  · have := h.els s hs
    exact ⟨by omega, this.2⟩
  · obtain ⟨s', hs', _, rfl⟩ := mem_more.1 hs
    have := h.els s' (by simpa using hs')
    refine ⟨by simp; omega, fun x hx => ?_⟩
    rcases List.mem_append.1 hx with hx | hx
    · exact this.2 x hx
    · rw [List.mem_singleton] at hx
      exact ⟨p, hx, hp⟩
theorem SetsIn.keep {w p : Nat} {S : List (List Int)} (h : SetsIn w p S) : SetsIn w (p + 1) S :=
  ⟨by have := h.len; rw [Nat.pow_succ]; omega, h.pos, fun s hs => ⟨by have := (h.els s hs).1; omega, (h.els s hs).2⟩⟩
theorem rGreatest_c (t : List (List Int)) (h : Sm t) : CallP Try.prog 57 [rdsV t] (.tup [ints (GreatR t).1, iv (GreatR t).2]) := by
  refine C57 (by simp) ?_
  simp [A57]
  try simp 
  repeat' (first
    | (refine CallX.pure (rValidate_c t h) (by simp) (by simp) ?_; try simp )
    | (refine CallK.intro (rValidate_c t h) (by simp) (by simp) ?_; try simp )
    | (refine CallG.intro (fun _ => rValidate_c t h) (by simp) (by simp) ?_; try simp )
    | ((with_reducible refine PreK.intro ?_ ?_); (next => (first | omega | (intros; first | omega | (refine ⟨by omega, ?_⟩; repeat (first | assumption | constructor)) | assumption))); intro _; try simp )
    | fail)
  refine CondK.intro (fun h1 => ?_) (fun h1 => ?_)
  · simp at h1
    simp [GreatR, h1]
  · simp at h1
    have hr := vErr_zero h1
    have e0 : 0 < t.length := hr.pos
    have hwd : (el t 0).length = wid t := rfl
    have hw6 := hr.w6
    have hS : GreatR t = (greatM t, 0) := by simp [GreatR, h1]
    rw [hS, ← great_same]
    generalize hR : greatR t = R
    unfold greatR at hR
    try simp 
    repeat (refine PreK.intro (by first | omega | (intros; first | omega | (refine ⟨by omega, ?_⟩; simp_all; done) | (simp_all; done) | (simp_all; omega))) fun _ => ?_; (try simp ))
    refine LoopK.frz 6 (b := ⟨1, [], 1, false⟩) (by simp) (by simp) ?_
    try simp 
    refine LoopK.byF (ι := Bool × Nat × Nat × List (List Int) × List Int) (fun x => match x with
        | (true, p, _, _, out) => ⟨[(7, iv p), (6, ints out), (5, .seq 1 [.seq 1 [] true] true), (0, rdsV t)], []⟩
        | (false, p, ver, S, out) => ⟨[(7, iv p), (6, ints out), (5, .sl 74 ver 0 S.length), (0, rdsV t)], [(74, some ⟨1, S.map ints, ver, false⟩)]⟩) (fun x => wid t - x.2.1)
      (fun x => x.2.1 ≤ wid t ∧ (x.1 = true → x.2.2.2.1 = [[]]) ∧ SetsIn (wid t) x.2.1 x.2.2.2.1 ∧ x.2.2.2.2 = bestL [] x.2.2.2.1.tail ∧ bestL [] (setsF t x.2.1 (wid t - x.2.1) x.2.2.2.1).tail = R ∧ x.2.2.2.2.length ≤ 6) (true, 0, 0, [[]], [])
      ⟨Nat.zero_le _, fun _ => rfl, ⟨by simp, by simp, by simp⟩, rfl, by simpa using hR, by simp⟩ (by simp) ?_
    intro ⟨lit, p, ver, S, out⟩ Q' ⟨hpw, hlit, hin, hout, hc, hol⟩ hq he hr' hfz
    dsimp only at hpw hlit hin hout hc hol
    cases lit with
    | true =>
      obtain rfl := hlit rfl
      try simp [e0, hwd]
      repeat (refine PreK.intro (by first | omega | (intros; first | omega | (refine ⟨by omega, ?_⟩; simp_all; done) | (simp_all; done) | (simp_all; omega))) fun _ => ?_; (try simp [e0, hwd]))
      refine CondK.intro (fun h2 => ?_) (fun h2 => ?_)
      · simp at h2
        have hd := rdifferent_c t p h2 hr
        rw [show wid t - p = (wid t - (p + 1)) + 1 by omega, setsF] at hc
        try simp 
        repeat' (first
          | (refine CallX.pure (hd) (by simp) (by simp) ?_; try simp )
          | (refine CallK.intro (hd) (by simp) (by simp) ?_; try simp )
          | (refine CallG.intro (fun _ => hd) (by simp) (by simp) ?_; try simp )
          | ((with_reducible refine PreK.intro ?_ ?_); (next => (first | omega | (intros; first | omega | (refine ⟨by omega, ?_⟩; repeat (first | assumption | constructor)) | assumption))); intro _; try simp )
          | fail)
        refine CondK.intro (fun h3 => ?_) (fun h3 => ?_)
        · have hsp : splits t p = false := by simp at h3; simp [splits]; omega
          rw [hsp] at hc
          repeat (refine PreK.intro (by first | omega | (intros; first | omega | (refine ⟨by omega, ?_⟩; simp_all; done) | (simp_all; done) | (simp_all; omega))) fun _ => ?_; (try simp ))
          exact hq (true, p + 1, 0, [[]], out) _ ⟨by dsimp only; omega, fun _ => rfl, hin.keep, hout, by simpa using hc, hol⟩ (by dsimp only; omega) (by simp)
        · have hsp : splits t p = true := by simp at h3; simp [splits]; omega
          rw [hsp] at hc
          try simp 
          repeat (refine PreK.intro (by first | omega | (intros; first | omega | (refine ⟨by omega, ?_⟩; simp_all; done) | (simp_all; done) | (simp_all; omega))) fun _ => ?_; (try simp ))
          refine LoopK.by (ι := Bool) (fun x => match x with
              | true => ⟨[(8, iv 0), (7, iv p), (6, ints out), (5, .seq 1 [.seq 1 [] true] true), (0, rdsV t)], []⟩
              | false => ⟨[(8, iv (-1)), (7, iv p), (6, ints [(p : Int)]), (5, .sl 74 1 0 2), (0, rdsV t)], [(74, some ⟨1, [ints [], ints [(p : Int)]], 1, false⟩)]⟩) (fun x => match x with | true => 1 | false => 0) (fun _ => True) true trivial (by simp) ?_
          intro b Q2 _ hq2 he2 hr2
          cases b with
          | false =>
            try simp 
            refine CondK.ff ?_
            try simp 
            apply he2
            repeat (refine PreK.intro (by first | omega | (intros; first | omega | (refine ⟨by omega, ?_⟩; simp_all; done) | (simp_all; done) | (simp_all; omega))) fun _ => ?_; (try simp ))
            exact hq (false, p + 1, 1, [[], [(p : Int)]], [(p : Int)]) _ ⟨by dsimp only; omega, (fun h => by simp at h), by simpa [moreF] using hin.step t h2, by simp [bestL, better], by simpa [moreF] using hc, by simp⟩ (by dsimp only; omega) (by simp)
          | true =>
            try simp 
            refine CondK.tt ?_
            try simp 
            refine LoopK.by (ι := Unit) (fun _ => ⟨[(10, iv 0), (9, bv true), (8, iv 0), (7, iv p), (6, ints out), (5, .seq 1 [.seq 1 [] true] true), (0, rdsV t)], []⟩) (fun _ => 0) (fun _ => True) () trivial (by simp) ?_
            intro _ Q3 _ hq3 he3 hr3
            try simp 
            refine CondK.ff ?_
            try simp 
            apply he3
            try simp 
            refine CondK.ff ?_
            try simp 
            try simp 
            repeat (refine PreK.intro (by first | omega | (intros; first | omega | (refine ⟨by omega, ?_⟩; simp_all; done) | (simp_all; done) | (simp_all; omega))) fun _ => ?_; (try simp ))
            obtain rfl : out = [] := by rw [hout]; rfl
            try simp 
            repeat (refine PreK.intro (by first | omega | (intros; first | omega | (refine ⟨by omega, ?_⟩; simp_all; done) | (simp_all; done) | (simp_all; omega))) fun _ => ?_; (try simp ))
            refine CallG.intro (r := bv true) (fun hh => by simp at hh) (by simp) (by simp) ?_
            try simp 
            refine CondK.tt ?_
            try simp 
            repeat (refine PreK.intro (by first | omega | (intros; first | omega | (refine ⟨by omega, ?_⟩; simp_all; done) | (simp_all; done) | (simp_all; omega))) fun _ => ?_; (try simp ))
            exact hq2 false _ trivial (by simp) (by simp)
      · simp at h2
        obtain rfl : p = wid t := by omega
        simp only [Nat.sub_self, setsF, List.tail_cons, bestL] at hc
        obtain rfl : out = [] := by rw [hout]; rfl
        subst hc
        try simp 
        apply he
        try simp 
    | false =>
      try simp [e0, hwd]
      repeat (refine PreK.intro (by first | omega | (intros; first | omega | (refine ⟨by omega, ?_⟩; simp_all; done) | (simp_all; done) | (simp_all; omega))) fun _ => ?_; (try simp [e0, hwd]))
      refine CondK.intro (fun h2 => ?_) (fun h2 => ?_)
      · simp at h2
        have hd := rdifferent_c t p h2 hr
        rw [show wid t - p = (wid t - (p + 1)) + 1 by omega, setsF] at hc
        try simp 
        repeat' (first
          | (refine CallX.pure (hd) (by simp) (by simp) ?_; try simp )
          | (refine CallK.intro (hd) (by simp) (by simp) ?_; try simp )
          | (refine CallG.intro (fun _ => hd) (by simp) (by simp) ?_; try simp )
          | ((with_reducible refine PreK.intro ?_ ?_); (next => (first | omega | (intros; first | omega | (refine ⟨by omega, ?_⟩; repeat (first | assumption | constructor)) | assumption))); intro _; try simp )
          | fail)
        refine CondK.intro (fun h3 => ?_) (fun h3 => ?_)
        · have hsp : splits t p = false := by simp at h3; simp [splits]; omega
          rw [hsp] at hc
          repeat (refine PreK.intro (by first | omega | (intros; first | omega | (refine ⟨by omega, ?_⟩; simp_all; done) | (simp_all; done) | (simp_all; omega))) fun _ => ?_; (try simp ))
          exact hq (false, p + 1, ver, S, out) _ ⟨by dsimp only; omega, (fun h => by simp at h), hin.keep, hout, by simpa using hc, hol⟩ (by dsimp only; omega) (by simp)
        · have hsp : splits t p = true := by simp at h3; simp [splits]; omega
          rw [hsp, if_pos rfl] at hc
          have hins := hin.step t h2
          have hSp := hin.pos
          have hSl := hins.len
          have h64 : 2 ^ (p + 1) ≤ 2 ^ 6 := Nat.pow_le_pow_right (by omega) (by omega)
          generalize hM : moreF t p S.reverse = M at hc hins hSl
          have hMo : ∀ s ∈ M, s.length ≤ 6 := fun s hs => by have := (hins.els s (List.mem_append_right _ hs)).1; omega
          rw [List.length_append] at hSl
          try simp 
          repeat (refine PreK.intro (by first | omega | (intros; first | omega | (refine ⟨by omega, ?_⟩; simp_all; done) | (simp_all; done) | (simp_all; omega))) fun _ => ?_; (try simp ))
          refine LoopK.by (ι := Nat × Nat × List (List Int) × List Int) (fun x => ⟨[(8, iv ((x.1 : Int) - 1)), (7, iv p), (6, ints x.2.2.2), (5, .sl 74 x.2.1 0 (S.length + x.2.2.1.length)), (0, rdsV t)], [(74, some ⟨1, (S ++ x.2.2.1).map ints, x.2.1, false⟩)]⟩) (fun x => x.1)
            (fun x => x.1 ≤ S.length ∧ x.2.2.1 ++ moreF t p (S.take x.1).reverse = M ∧ x.2.2.2 = bestL out x.2.2.1 ∧ x.2.2.2.length ≤ 6) (S.length, ver, [], out) ⟨Nat.le_refl _, by simpa using hM, rfl, hol⟩ (by simp) ?_
          intro ⟨r, v2, acc, o⟩ Q2 ⟨hrl, hacc, ho, hol2⟩ hq2 he2 hr2
          dsimp only at hrl hacc ho hol2
          have hal : acc.length ≤ M.length := by rw [← hacc]; simp
          try simp 
          repeat (refine PreK.intro (by first | omega | (intros; first | omega | (refine ⟨by omega, ?_⟩; simp_all; done) | (simp_all; done) | (simp_all; omega))) fun _ => ?_; (try simp ))
          refine CondK.intro (fun h4 => ?_) (fun h4 => ?_)
          · simp at h4
            obtain ⟨k, rfl⟩ : ∃ k, r = k + 1 := ⟨r - 1, by omega⟩
            have hkS : k < S.length := by omega
            rw [take_succ S k hkS, List.reverse_append, List.reverse_cons, List.reverse_nil, List.nil_append, List.singleton_append, moreF] at hacc
            have hse := hin.els _ (el_mem_of S k hkS)
            have hnt : nth ((S ++ acc).map ints) k = ints (el S k) := by rw [nth_map ints (S ++ acc) k (by simp; omega), el_app_lt S acc k hkS]
            rw [List.map_append] at hnt
            generalize hs0 : el S k = s at hacc hse hnt
            obtain ⟨hsl, hsx⟩ := hse
            have hk1 : ((k + 1 : Nat) : Int) - 1 = (k : Int) := by omega
            generalize hC : (s.all fun q => !confM t q.toNat p) = C at hacc
            try simp [hk1]
            repeat (refine PreK.intro (by first | omega | (intros; first | omega | (refine ⟨by omega, ?_⟩; simp_all; done) | (simp_all; done) | (simp_all; omega))) fun _ => ?_; (try simp [hk1]))
            refine LoopK.by (ι := Nat × Bool) (fun x => ⟨[(10, iv x.1), (9, bv x.2), (8, iv k), (7, iv p), (6, ints o), (5, .sl 74 v2 0 (S.length + acc.length)), (0, rdsV t)], [(74, some ⟨1, (S ++ acc).map ints, v2, false⟩)]⟩) (fun x => s.length - x.1)
              (fun x => x.1 ≤ s.length ∧ (x.2 && (s.drop x.1).all fun q => !confM t q.toNat p) = C) (0, true) ⟨Nat.zero_le _, by simpa using hC⟩ (by simp) ?_
            intro ⟨j, c⟩ Q3 ⟨hj, hcc⟩ hq3 he3 hr3
            dsimp only at hj hcc
            try simp [hnt]
            repeat (refine PreK.intro (by first | omega | (intros; first | omega | (refine ⟨by omega, ?_⟩; simp_all; done) | (simp_all; done) | (simp_all; omega))) fun _ => ?_; (try simp [hnt]))
            refine CondK.intro (fun h5 => ?_) (fun h5 => ?_)
            · simp at h5
              obtain ⟨q, hqe, hqw⟩ := hsx _ (el_mem_of s j h5)
              have hcf := rconflict_c t q p hqw h2 hr
              rw [drop_cons s j h5, List.all_cons, hqe, Int.toNat_natCast] at hcc
              try simp [hnt, h5, hqe]
              repeat (refine PreK.intro (by first | omega | (intros; first | omega | (refine ⟨by omega, ?_⟩; simp_all; done) | (simp_all; done) | (simp_all; omega))) fun _ => ?_; (try simp [hnt, h5, hqe]))
              cases c with
              | true =>
                refine CallG.intro (fun _ => by simpa using hcf) (by simp) (by simp) ?_
                repeat (refine PreK.intro (by first | omega | (intros; first | omega | (refine ⟨by omega, ?_⟩; simp_all; done) | (simp_all; done) | (simp_all; omega))) fun _ => ?_; (try simp ))
                exact hq3 (j + 1, !confM t q p) _ ⟨by dsimp only; omega, by simpa using hcc⟩ (by dsimp only; omega) (by simp)
              | false =>
                refine CallG.intro (r := bv true) (fun hh => by simp at hh) (by simp) (by simp) ?_
                repeat (refine PreK.intro (by first | omega | (intros; first | omega | (refine ⟨by omega, ?_⟩; simp_all; done) | (simp_all; done) | (simp_all; omega))) fun _ => ?_; (try simp ))
                exact hq3 (j + 1, false) _ ⟨by dsimp only; omega, by simpa using hcc⟩ (by dsimp only; omega) (by simp)
            · simp at h5
              rw [List.drop_eq_nil_of_le (by omega)] at hcc
              simp only [List.all_nil, Bool.and_true] at hcc
              subst hcc
              try simp 
              apply he3
              try simp 
              cases c with
              | false =>
                refine CondK.tt ?_
                try simp 
                rw [if_neg (by simp)] at hacc
                repeat (refine PreK.intro (by first | omega | (intros; first | omega | (refine ⟨by omega, ?_⟩; simp_all; done) | (simp_all; done) | (simp_all; omega))) fun _ => ?_; (try simp ))
                exact hq2 (k, v2, acc, o) _ ⟨by dsimp only; omega, hacc, ho, hol2⟩ (by dsimp only; omega) (by simp)
              | true =>
                refine CondK.ff ?_
                try simp 
                rw [if_pos rfl] at hacc
                try simp [hnt]
                repeat (refine PreK.intro (by first | omega | (intros; first | omega | (refine ⟨by omega, ?_⟩; simp_all; done) | (simp_all; done) | (simp_all; omega))) fun _ => ?_; (try simp [hnt]))
                have hT : List.take (s.length + 1) (List.map iv s ++ [AV.raw (Value.int .i64 (p : Int))]) = List.map iv s ++ [AV.raw (Value.int .i64 (p : Int))] := List.take_of_length_le (by simp)
                have hT2 : List.take (S.length + acc.length) (List.map ints S ++ List.map ints acc) = List.map ints S ++ List.map ints acc := List.take_of_length_le (by simp)
                have hbf := before7_c (s ++ [(p : Int)]) o (by simp; omega)
                have hxl : (s ++ [(p : Int)]).length = s.length + 1 := by simp
                have hob : ∀ o', (if better (s ++ [(p : Int)]) o then s ++ [(p : Int)] else o) = o' → o' = bestL out (acc ++ [s ++ [(p : Int)]]) := by
                  intro o' e
                  rw [bestL_append, ← ho]
                  exact e.symm
                unfold better at hob
                rw [hxl] at hob
                by_cases h6 : o.length < s.length + 1
                · have h6' : ((o.length : Int) < (s.length : Int) + 1) := by omega
                  refine CallG.intro (r := bv true) (fun hh => by simp [h6'] at hh) (by simp) (by simp) ?_
                  try simp [h6', hT]
                  refine CondK.tt ?_
                  try simp 
                  repeat (refine PreK.intro (by first | omega | (intros; first | omega | (refine ⟨by omega, ?_⟩; simp_all; done) | (simp_all; done) | (simp_all; omega))) fun _ => ?_; (try simp [h6', hT]))
                  exact hq2 (k, v2 + 1, acc ++ [s ++ [(p : Int)]], s ++ [(p : Int)]) _ ⟨by dsimp only; omega, by simpa using hacc, hob _ (by simp [h6]), by simp; omega⟩ (by dsimp only; omega) (by simp [hT2, Nat.add_assoc])
                · have h6' : ¬ ((o.length : Int) < (s.length : Int) + 1) := by omega
                  by_cases h7 : s.length + 1 = o.length
                  · have h7' : ((s.length : Int) + 1 = (o.length : Int)) := by omega
                    refine CallG.intro (fun _ => by simpa [hT] using hbf) (by simp) (by simp) ?_
                    generalize hB : bef (s ++ [(p : Int)]) o = B at hob
                    cases B with
                    | true =>
                      try simp [h6', h7', hT]
                      refine CondK.tt ?_
                      try simp 
                      repeat (refine PreK.intro (by first | omega | (intros; first | omega | (refine ⟨by omega, ?_⟩; simp_all; done) | (simp_all; done) | (simp_all; omega))) fun _ => ?_; (try simp [h6', h7', hT]))
                      exact hq2 (k, v2 + 1, acc ++ [s ++ [(p : Int)]], s ++ [(p : Int)]) _ ⟨by dsimp only; omega, by simpa using hacc, hob _ (by simp [h6, h7]), by simp; omega⟩ (by dsimp only; omega) (by simp [hT2, Nat.add_assoc])
                    | false =>
                      try simp [h6', h7', hT]
                      refine CondK.ff ?_
                      try simp 
                      repeat (refine PreK.intro (by first | omega | (intros; first | omega | (refine ⟨by omega, ?_⟩; simp_all; done) | (simp_all; done) | (simp_all; omega))) fun _ => ?_; (try simp [h6', h7', hT]))
                      exact hq2 (k, v2 + 1, acc ++ [s ++ [(p : Int)]], o) _ ⟨by dsimp only; omega, by simpa using hacc, hob _ (by simp [h6, h7]), hol2⟩ (by dsimp only; omega) (by simp [hT2, Nat.add_assoc])
                  · have h7' : ¬ ((s.length : Int) + 1 = (o.length : Int)) := by omega
                    refine CallG.intro (r := bv true) (fun hh => by simp [h6', h7'] at hh) (by simp) (by simp) ?_
                    try simp [h6', h7', hT]
                    refine CondK.ff ?_
                    try simp 
                    repeat (refine PreK.intro (by first | omega | (intros; first | omega | (refine ⟨by omega, ?_⟩; simp_all; done) | (simp_all; done) | (simp_all; omega))) fun _ => ?_; (try simp [h6', h7', hT]))
                    exact hq2 (k, v2 + 1, acc ++ [s ++ [(p : Int)]], o) _ ⟨by dsimp only; omega, by simpa using hacc, hob _ (by simp [h6, h7]), hol2⟩ (by dsimp only; omega) (by simp [hT2, Nat.add_assoc])
          · simp at h4
            obtain rfl : r = 0 := by omega
            simp only [List.take_zero, List.reverse_nil, moreF, List.append_nil] at hacc
            subst hacc
            try simp 
            apply he2
            repeat (refine PreK.intro (by first | omega | (intros; first | omega | (refine ⟨by omega, ?_⟩; simp_all; done) | (simp_all; done) | (simp_all; omega))) fun _ => ?_; (try simp ))
            refine hq (false, p + 1, v2, S ++ acc, o) _ ⟨by dsimp only; omega, (fun h => by simp at h), hins, ?_, hc, hol2⟩ (by dsimp only; omega) (by simp)
            dsimp only
            rw [ho, hout, ← bestL_append]
            cases S with
            | nil => simp at hSp
            | cons y S => rfl
      · simp at h2
        obtain rfl : p = wid t := by omega
        simp only [Nat.sub_self, setsF] at hc
        rw [← hout] at hc
        subst hc
        try simp 
        apply he
        try simp 
theorem great_len (t : List (List Int)) : (greatM t).length ≤ wid t := by
  unfold greatM
  rcases (bestL_spec (goodsF t (wid t) 0 (2 ^ wid t)) []).1 with e | e
  · rw [e]; simp
  · obtain ⟨k, _, _, _, h4⟩ := mem_goods.1 e
    rw [h4, List.length_map, (cand_spec t (wid t) k).1]
    have := List.length_filter_le (bitOn k) (List.range' 0 (wid t))
    simpa using this
theorem GreatR_len (t : List (List Int)) : (GreatR t).1.length ≤ 6 := by
  unfold GreatR
  by_cases h : vErr t = 0
  · rw [if_neg (by simp [h])]
    have := (vErr_zero h).w6
    have := great_len t
    dsimp only
    omega
  · rw [if_pos h]; simp
theorem lawStemmaGreatest_c (t : List (List Int)) (hb : t.length ≤ big) : CallP Try.prog 15 [rdsV t] (bv true) := by
  refine C15 (by simp) ?_
  have hlg := Long7_c t hb
  simp [A15]
  cases hL : longT t with
  | true =>
    rw [hL] at hlg
    try simp 
    repeat' (first
      | (refine CallX.pure (hlg) (by simp) (by simp) ?_; try simp )
      | (refine CallK.intro (hlg) (by simp) (by simp) ?_; try simp )
      | (refine CallG.intro (fun _ => hlg) (by simp) (by simp) ?_; try simp )
      | ((with_reducible refine PreK.intro ?_ ?_); (next => (first | omega | (intros; first | omega | (refine ⟨by omega, ?_⟩; repeat (first | assumption | constructor)) | assumption))); intro _; try simp )
      | fail)
    refine CondK.tt ?_
    try simp 
    try simp 
    repeat' (first
      | (refine CallX.pure (sane7_c) (by simp) (by simp) ?_; try simp )
      | (refine CallK.intro (sane7_c) (by simp) (by simp) ?_; try simp )
      | (refine CallG.intro (fun _ => sane7_c) (by simp) (by simp) ?_; try simp )
      | ((with_reducible refine PreK.intro ?_ ?_); (next => (first | omega | (intros; first | omega | (refine ⟨by omega, ?_⟩; repeat (first | assumption | constructor)) | assumption))); intro _; try simp )
      | fail)
  | false =>
    rw [hL] at hlg
    obtain ⟨hs, _, _⟩ := longT_small hL
    have c1 := Greatest_c t hs
    have c2 := rGreatest_c t hs
    have hl := GreatR_len t
    generalize GreatR t = A at c1 c2 hl
    obtain ⟨A1, A2⟩ := A
    dsimp only at c1 c2 hl
    have hsm := same7_c A1 A1 (by simp only [big]; omega)
    try simp 
    repeat' (first
      | (refine CallX.pure (hlg) (by simp) (by simp) ?_; try simp )
      | (refine CallK.intro (hlg) (by simp) (by simp) ?_; try simp )
      | (refine CallG.intro (fun _ => hlg) (by simp) (by simp) ?_; try simp )
      | ((with_reducible refine PreK.intro ?_ ?_); (next => (first | omega | (intros; first | omega | (refine ⟨by omega, ?_⟩; repeat (first | assumption | constructor)) | assumption))); intro _; try simp )
      | fail)
    refine CondK.ff ?_
    try simp 
    try simp 
    repeat' (first
      | (refine CallX.pure (c1) (by simp) (by simp) ?_; try simp )
      | (refine CallK.intro (c1) (by simp) (by simp) ?_; try simp )
      | (refine CallG.intro (fun _ => c1) (by simp) (by simp) ?_; try simp )
      | (refine CallX.pure (c2) (by simp) (by simp) ?_; try simp )
      | (refine CallK.intro (c2) (by simp) (by simp) ?_; try simp )
      | (refine CallG.intro (fun _ => c2) (by simp) (by simp) ?_; try simp )
      | (refine CallX.pure (hsm) (by simp) (by simp) ?_; try simp )
      | (refine CallK.intro (hsm) (by simp) (by simp) ?_; try simp )
      | (refine CallG.intro (fun _ => hsm) (by simp) (by simp) ?_; try simp )
      | (refine CallX.pure (sane7_c) (by simp) (by simp) ?_; try simp )
      | (refine CallK.intro (sane7_c) (by simp) (by simp) ?_; try simp )
      | (refine CallG.intro (fun _ => sane7_c) (by simp) (by simp) ?_; try simp )
      | ((with_reducible refine PreK.intro ?_ ?_); (next => (first | omega | (intros; first | omega | (refine ⟨by omega, ?_⟩; repeat (first | assumption | constructor)) | assumption))); intro _; try simp )
      | fail)
end Go.Proofs.Ytnpkaemlidifgaa
end
